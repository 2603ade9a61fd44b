import PyProof.Rows.All
import Wide.All
import OpenK.AllK
import Wide.FinOn
import HandS.ForMost
import HandS.ForExc
import HandS.TryMany
import HandS.TryOnly
import HandS.ExcOwn
import HandS.WordsExc
import HandS.Zip
import HandS.Style
import HandS.IsInst
import HandS.ExcIs
import HandS.TupMul
import HandS.TupAny
import HandS.TupLe
import HandS.SetFor
import HandS.More
import KE.KEqNest
import HandS.Evl
import PySem.Challenge.RW_stackproof_k05_trails_looked_at
set_option Elab.async false
set_option linter.all false
set_option maxRecDepth 100000
set_option maxHeartbeats 8000000
/-! A small value language: frozen data D, values W, cells, outcomes. -/
namespace Py
open PySem L2

inductive D where
  | non | bl (b : Bool) | int (i : Int) | str (s : Str)
  | tup (xs : List D) | lst (xs : List D) | dct (kvs : List (Str × D)) | scr (ns : List Int)

mutual
def toPy : D → PyData
  | .non => .none | .bl b => .bool b | .int i => .int i | .str s => .str s
  | .tup xs => .tuple (toPyL xs) | .lst xs => .list (toPyL xs) | .dct _ => .none | .scr _ => .none
def toPyL : List D → List PyData
  | [] => []
  | x :: xs => toPy x :: toPyL xs
end
mutual
/-- no dict within, texts that can be compared -/
def D.fine : D → Bool
  | .non => true | .bl _ => true | .int _ => true | .str s => PyData.strOk s
  | .tup xs => fineL xs | .lst xs => fineL xs | .dct _ => false | .scr _ => false
def fineL : List D → Bool
  | [] => true
  | x :: xs => x.fine && fineL xs
end
mutual
def D.dep : D → Nat
  | .tup xs => depL xs + 1 | .lst xs => depL xs + 1 | _ => 0
def depL : List D → Nat
  | [] => 0
  | x :: xs => max x.dep (depL xs)
end
mutual
def D.eqv : D → D → Bool
  | .non, .non => true
  | .bl a, .bl b => a == b
  | .bl a, .int j => (if a then 1 else 0) == j
  | .int i, .bl b => i == (if b then 1 else 0)
  | .int i, .int j => i == j
  | .str x, .str y => x == y
  | .lst xs, .lst ys => eqvL xs ys
  | .tup xs, .tup ys => eqvL xs ys
  | _, _ => false
def eqvL : List D → List D → Bool
  | [], [] => true
  | x :: xs, y :: ys => x.eqv y && eqvL xs ys
  | _, _ => false
end

/-! ### values, cells, outcomes -/
inductive W where
  | d (x : D) | c (k : Nat) | exc
inductive Cell where
  | lst (xs : List D) | dct (kvs : List (Str × D)) | obj (fs : List (Str × W)) | frz (d : D)
abbrev Store := List Cell
abbrev Env := List (Option W)
inductive Exc where
  | empty | kind | block | apart | dry
  deriving DecidableEq
inductive Res (α : Type) where
  | ok (a : α) (st : Store) | err (c : Exc) (st : Store) | stuck
abbrev M (α : Type) := Env → Store → Res α
abbrev Fn := List W → Store → Res W
inductive RS where
  | nx (env : Env) (st : Store) | ret (w : W) (st : Store) | err (c : Exc) (env : Env) (st : Store) | stuck
abbrev MS := Env → Store → RS

def Res.bind {α β : Type} (r : Res α) (k : α → Store → Res β) : Res β := match r with
  | .ok a st => k a st
  | .err c st => .err c st
  | .stuck => .stuck
@[simp] theorem Res.bind_ok {α β : Type} (a : α) (st : Store) (k : α → Store → Res β) : (Res.ok a st).bind k = k a st := rfl
@[simp] theorem Res.bind_err {α β : Type} (c : Exc) (st : Store) (k : α → Store → Res β) : (Res.err c st : Res α).bind k = .err c st := rfl
@[simp] theorem Res.bind_stuck {α β : Type} (k : α → Store → Res β) : (Res.stuck : Res α).bind k = .stuck := rfl

/-- what a value shows -/
def asD (st : Store) : W → Option D
  | .d x => some x
  | .c k => match st[k]? with
    | some (.lst xs) => some (.lst xs)
    | some (.dct kvs) => some (.dct kvs)
    | some (.frz d) => some d
    | _ => none
  | .exc => none
def frzW (w : W) (d : D) (st : Store) : Store := match w with
  | .c k => st.set k (.frz d)
  | _ => st
/-- a value becomes data: a live cell is frozen -/
def toD (w : W) (st : Store) : Res D := match asD st w with
  | some d => .ok d (frzW w d st)
  | none => .stuck
def toDs : List W → Store → Res (List D)
  | [], st => .ok [] st
  | w :: ws, st => (toD w st).bind fun d st1 => (toDs ws st1).bind fun ds st2 => .ok (d :: ds) st2

/-! ### dicts by texts -/
def look (k : Str) : List (Str × D) → Option D
  | [] => none
  | (k', v) :: r => if k' = k then some v else look k r
def putD (kvs : List (Str × D)) (k : Str) (v : D) : List (Str × D) :=
  if (kvs.any fun kv => decide (kv.1 = k)) = true then kvs.map (fun kv => if kv.1 = k then (kv.1, v) else kv) else kvs ++ [(k, v)]
def dropD (kvs : List (Str × D)) (k : Str) : List (Str × D) := kvs.filter fun kv => decide (kv.1 ≠ k)
def hitD (b : List (Str × D)) (p : Str × D) : Bool := match look p.1 b with
  | some y => p.2.eqv y
  | none => false
def dctEqv (a b : List (Str × D)) : Bool := a.length == b.length && a.all (hitD b)
/-! ### sequences -/
def cut {α : Type} (xs : List α) (lo hi : Option Int) : List α := (xs.drop (HT.sIx xs.length 0 lo)).take (HT.sIx xs.length xs.length hi - HT.sIx xs.length 0 lo)
def newL (own : Bool) (xs : List D) (st : Store) : Res W :=
  if xs.length ≤ sizeLine then (if own = true then .ok (.c st.length) (st ++ [.lst xs]) else .ok (.d (.lst xs)) st) else .stuck
def newT (xs : List D) (st : Store) : Res W := if xs.length ≤ sizeLine then .ok (.d (.tup xs)) st else .stuck
def newDc (own : Bool) (kvs : List (Str × D)) (st : Store) : Res W := if own = true then .ok (.c st.length) (st ++ [.dct kvs]) else .ok (.d (.dct kvs)) st
def reps (k : Int) (xs : List D) : List D := (List.replicate k.toNat xs).flatten

/-! ### bounds of the machine's own -/
/-- a test that nothing unfolds -/
theorem shut (p : Int → Prop) : ∃ f : Int → Bool, ∀ k, f k = true ↔ p k := by
  classical
  exact ⟨fun k => decide (p k), fun k => decide_eq_true_iff⟩
theorem shut2 (p : Int → Int → Prop) : ∃ f : Int → Int → Bool, ∀ i k, f i k = true ↔ p i k := by
  classical
  exact ⟨fun i k => decide (p i k), fun i k => decide_eq_true_iff⟩
noncomputable def mulOk : Int → Int → Bool := (shut2 fun i j => (-(2 ^ 64) < i ∧ i < 2 ^ 64) ∨ (-(2 ^ 64) < j ∧ j < 2 ^ 64)).choose
noncomputable def repOk : Int → Bool := (shut fun k => -(2 ^ 63) ≤ k ∧ k < 2 ^ 63).choose
noncomputable def rngOk : Int → Bool := (shut fun n => -(2 ^ 40) ≤ n ∧ n < 2 ^ 40).choose
noncomputable def fdvOk : Int → Bool := (shut fun j => 0 < j ∧ j < 1073741824).choose
noncomputable def powOk : Int → Int → Bool := (shut2 fun i j => 0 ≤ j ∧ j ≤ 1000000 ∧ i.natAbs < 2 ^ 64).choose
noncomputable def tupOk : Int → Bool := (shut fun k => 1 ≤ k ∧ k ≤ 1000).choose
theorem mulOk_iff (i j : Int) : mulOk i j = true ↔ ((-(2 ^ 64) < i ∧ i < 2 ^ 64) ∨ (-(2 ^ 64) < j ∧ j < 2 ^ 64)) := (shut2 fun i j => (-(2 ^ 64) < i ∧ i < 2 ^ 64) ∨ (-(2 ^ 64) < j ∧ j < 2 ^ 64)).choose_spec i j
theorem repOk_iff (k : Int) : repOk k = true ↔ (-(2 ^ 63) ≤ k ∧ k < 2 ^ 63) := (shut fun k => -(2 ^ 63) ≤ k ∧ k < 2 ^ 63).choose_spec k
theorem rngOk_iff (n : Int) : rngOk n = true ↔ (-(2 ^ 40) ≤ n ∧ n < 2 ^ 40) := (shut fun n => -(2 ^ 40) ≤ n ∧ n < 2 ^ 40).choose_spec n
theorem fdvOk_iff (j : Int) : fdvOk j = true ↔ (0 < j ∧ j < 1073741824) := (shut fun j => 0 < j ∧ j < 1073741824).choose_spec j
theorem powOk_iff (i j : Int) : powOk i j = true ↔ (0 ≤ j ∧ j ≤ 1000000 ∧ i.natAbs < 2 ^ 64) := (shut2 fun i j => 0 ≤ j ∧ j ≤ 1000000 ∧ i.natAbs < 2 ^ 64).choose_spec i j
theorem tupOk_iff (k : Int) : tupOk k = true ↔ (1 ≤ k ∧ k ≤ 1000) := (shut fun k => 1 ≤ k ∧ k ≤ 1000).choose_spec k
/-! ### expressions -/
def varM (i : Nat) : M W := fun env st => match env[i]? with
  | some (some w) => .ok w st
  | _ => .stuck
def conM (d : D) : M W := fun _ st => .ok (.d d) st
def binM (g : W → W → Store → Res W) (a b : M W) : M W := fun env st => (a env st).bind fun x s1 => (b env s1).bind fun y s2 => g x y s2
def unM (g : W → Store → Res W) (a : M W) : M W := fun env st => (a env st).bind fun x s1 => g x s1
def nilA : M (List W) := fun _ st => .ok [] st
def consA (a : M W) (r : M (List W)) : M (List W) := fun env st => (a env st).bind fun x s1 => (r env s1).bind fun xs s2 => .ok (x :: xs) s2
def appM (g : List W → Store → Res W) (a : M (List W)) : M W := fun env st => (a env st).bind fun xs s1 => g xs s1

def addW (own : Bool) (x y : W) (st : Store) : Res W := match asD st x, asD st y with
  | some (.int i), some (.int j) => .ok (.d (.int (i + j))) st
  | some (.str a), some (.str b) => if a.length + b.length ≤ sizeLine then .ok (.d (.str (a ++ b))) st else .stuck
  | some (.lst xs), some (.lst ys) => newL own (xs ++ ys) st
  | some (.tup xs), some (.tup ys) => newT (xs ++ ys) st
  | _, _ => .stuck
def subW (x y : W) (st : Store) : Res W := match asD st x, asD st y with
  | some (.int i), some (.int j) => .ok (.d (.int (i - j))) st
  | _, _ => .stuck
noncomputable def mulW (own : Bool) (x y : W) (st : Store) : Res W := match asD st x, asD st y with
  | some (.int i), some (.int j) => if mulOk i j = true then .ok (.d (.int (i * j))) st else .stuck
  | some (.lst xs), some (.int k) => if repOk k = true then newL own (reps k xs) st else .stuck
  | some (.tup xs), some (.int k) => if tupOk k = true ∧ xs.length = 1 then newT (reps k xs) st else .stuck
  | _, _ => .stuck
def modW (x y : W) (st : Store) : Res W := match asD st x, asD st y with
  | some (.int i), some (.int j) => if 0 < j then .ok (.d (.int (i % j))) st else .stuck
  | _, _ => .stuck
noncomputable def fdivW (x y : W) (st : Store) : Res W := match asD st x, asD st y with
  | some (.int i), some (.int j) => if fdvOk j = true then .ok (.d (.int (i / j))) st else .stuck
  | _, _ => .stuck
noncomputable def powW (x y : W) (st : Store) : Res W := match asD st x, asD st y with
  | some (.int i), some (.int j) => if powOk i j = true then .ok (.d (.int (i ^ j.toNat))) st else .stuck
  | _, _ => .stuck
def negW (x : W) (st : Store) : Res W := match asD st x with
  | some (.int i) => .ok (.d (.int (-i))) st
  | _ => .stuck
def cmpW (p : Int → Int → Bool) (x y : W) (st : Store) : Res W := match asD st x, asD st y with
  | some (.int i), some (.int j) => .ok (.d (.bl (p i j))) st
  | _, _ => .stuck
def eqD (x y : D) : Option Bool := match x, y with
  | .dct a, .dct b => if (a.all fun p => p.2.fine && decide (p.2.dep ≤ 50)) && (b.all fun p => p.2.fine && decide (p.2.dep ≤ 50)) then some (dctEqv a b) else none
  | x, y => if x.fine && decide (x.dep ≤ 60) && y.fine && decide (y.dep ≤ 60) then some (x.eqv y) else none
def eqW (neg : Bool) (x y : W) (st : Store) : Res W := match asD st x, asD st y with
  | some a, some b => match eqD a b with
    | some r => .ok (.d (.bl (if neg then !r else r))) st
    | none => .stuck
  | _, _ => .stuck
def W.isExc : W → Bool
  | .exc => true
  | _ => false
def W.isNon : W → Bool
  | .d .non => true
  | _ => false
def isNonW (neg : Bool) (x : W) (st : Store) : Res W := .ok (.d (.bl (if neg then !x.isNon else x.isNon))) st
def isNonB (neg : Bool) (x y : W) (st : Store) : Res W := match y with
  | .d .non => isNonW neg x st
  | _ => .stuck
def isStr : D → Bool
  | .str _ => true
  | _ => false
def inW (neg : Bool) (x y : W) (st : Store) : Res W := match asD st x, asD st y with
  | some (.str k), some (.dct kvs) => .ok (.d (.bl (if neg then !(look k kvs).isSome else (look k kvs).isSome))) st
  | some (.str k), some (.lst ys) => if ys.all isStr then .ok (.d (.bl (if neg then !(ys.any fun z => z.eqv (.str k)) else ys.any fun z => z.eqv (.str k)))) st else .stuck
  | some (.str k), some (.tup ys) => if ys.all isStr then .ok (.d (.bl (if neg then !(ys.any fun z => z.eqv (.str k)) else ys.any fun z => z.eqv (.str k)))) st else .stuck
  | _, _ => .stuck
def ixW (x y : W) (st : Store) : Res W := match asD st x, asD st y with
  | some (.lst xs), some (.int i) => match atI xs i with
    | some v => .ok (.d v) st
    | none => .stuck
  | some (.tup xs), some (.int i) => match atI xs i with
    | some v => .ok (.d v) st
    | none => .stuck
  | some (.scr ns), some (.int i) => match atI ns i with
    | some v => .ok (.d (.int v)) st
    | none => .stuck
  | some (.dct kvs), some (.str k) => match look k kvs with
    | some v => .ok (.d v) st
    | none => .stuck
  | some (.str z), some (.int i) => if z.length ≤ sizeLine then (match atI z.cps.toList i with
    | some c => .ok (.d (.str ⟨#[c]⟩)) st
    | none => .stuck) else .stuck
  | _, _ => .stuck
/-- a table of the text -/
def tabW (T : List (Str × D)) (y : W) (st : Store) : Res W := match asD st y with
  | some (.str k) => match look k T with
    | some v => .ok (.d v) st
    | none => .stuck
  | _ => .stuck
def app1 (g : W → Store → Res W) : List W → Store → Res W
  | [x], st => g x st
  | _, _ => .stuck
def app2 (g : W → W → Store → Res W) : List W → Store → Res W
  | [x, y], st => g x y st
  | _, _ => .stuck
def noneO : M (Option Int) := fun _ st => .ok none st
def someO (a : M W) : M (Option Int) := fun env st => (a env st).bind fun x s1 => match asD s1 x with
  | some (.int i) => .ok (some i) s1
  | _ => .stuck
def slW (own : Bool) (x : W) (lo hi : Option Int) (st : Store) : Res W := match asD st x with
  | some (.lst xs) => newL own (cut xs lo hi) st
  | some (.tup xs) => newT (cut xs lo hi) st
  | some (.scr ns) => newL own ((cut ns lo hi).map .int) st
  | some (.str z) => if z.length ≤ sizeLine then .ok (.d (.str (cutS z lo hi))) st else .stuck
  | _ => .stuck
def slM (own : Bool) (a : M W) (lo hi : M (Option Int)) : M W := fun env st => (a env st).bind fun x s1 => (lo env s1).bind fun l s2 => (hi env s2).bind fun h s3 => slW own x l h s3
def revW (own : Bool) (x : W) (st : Store) : Res W := match asD st x with
  | some (.lst xs) => newL own xs.reverse st
  | _ => .stuck
def lenW (x : W) (st : Store) : Res W := match asD st x with
  | some (.lst xs) => .ok (.d (.int xs.length)) st
  | some (.tup xs) => .ok (.d (.int xs.length)) st
  | some (.scr ns) => .ok (.d (.int ns.length)) st
  | some (.dct kvs) => .ok (.d (.int kvs.length)) st
  | some (.str z) => if z.length ≤ sizeLine then .ok (.d (.int z.length)) st else .stuck
  | _ => .stuck
def listW (own : Bool) (x : W) (st : Store) : Res W := match asD st x with
  | some (.lst xs) => newL own xs st
  | some (.tup xs) => newL own xs st
  | some (.dct kvs) => newL own (kvs.map fun p => .str p.1) st
  | _ => .stuck
def tupleW (x : W) (st : Store) : Res W := match asD st x with
  | some (.lst xs) => newT xs st
  | some (.tup xs) => newT xs st
  | _ => .stuck
def intW (x : W) (st : Store) : Res W := match asD st x with
  | some (.int i) => .ok (.d (.int i)) st
  | some (.bl b) => .ok (.d (.int (if b then 1 else 0))) st
  | _ => .stuck
def maxW (x y : W) (st : Store) : Res W := match asD st x, asD st y with
  | some (.int i), some (.int j) => .ok (.d (.int (if j > i then j else i))) st
  | _, _ => .stuck
def strsOf : List D → Option (List Str)
  | [] => some []
  | .str i :: r => (strsOf r).map (i :: ·)
  | _ :: _ => none
def joinS (a : Str) (y : W) (st : Store) : Res W := match asD st y with
  | some (.lst xs) => match strsOf xs with
    | some ys => if (ys.map (·.length)).sum + ys.length * a.length ≤ 16777216 then .ok (.d (.str (Txt.join a ys))) st else .stuck
    | none => .stuck
  | _ => .stuck
/-- the kinds that isinstance tells -/
inductive Ty where
  | str | int | bool | list | tuple
  deriving DecidableEq
def tyOf (st : Store) : W → Option String
  | .d .non => some "NoneType"
  | .d (.bl _) => some "bool"
  | .d (.int _) => some "int"
  | .d (.str _) => some "str"
  | .d (.tup _) => some "tuple"
  | .d (.lst _) => some "list"
  | .d (.dct _) => some "dict"
  | .d (.scr _) => none
  | .c k => match st[k]? with
    | some (.lst _) => some "list"
    | some (.dct _) => some "dict"
    | some (.obj _) => some "object"
    | some (.frz (.lst _)) => some "list"
    | some (.frz (.dct _)) => some "dict"
    | _ => none
  | .exc => none
def isiOne (t : String) (u : String) : Bool := t == u || (t == "bool" && u == "int")
def tupM (a : M (List W)) : M W := fun env st => (a env st).bind fun ws s1 => (toDs ws s1).bind fun ds s2 => newT ds s2
def lstM (own : Bool) (a : M (List W)) : M W := fun env st => (a env st).bind fun ws s1 => (toDs ws s1).bind fun ds s2 => newL own ds s2
/-! ### what changes a cell -/
def appendW (x y : W) (st : Store) : Res W := match x with
  | .c k => (toD y st).bind fun d s1 => match s1[k]? with
    | some (.lst xs) => if xs.length < sizeLine then .ok (.d .non) (s1.set k (.lst (xs ++ [d]))) else .stuck
    | _ => .stuck
  | _ => .stuck
def popW (x : W) (st : Store) : Res W := match x with
  | .c k => match st[k]? with
    | some (.lst xs) => match xs.getLast? with
      | some d => .ok (.d d) (st.set k (.lst xs.dropLast))
      | none => .stuck
    | _ => .stuck
  | _ => .stuck
def putF (f : Str) (w : W) : List (Str × W) → List (Str × W)
  | [] => [(f, w)]
  | (k, v) :: r => if k = f then (k, w) :: r else (k, v) :: putF f w r
def getF (f : Str) : List (Str × W) → Option W
  | [] => none
  | (k, v) :: r => if k = f then some v else getF f r
def isLst (x : W) (st : Store) : Bool := match asD st x with
  | some (.lst _) => true
  | _ => false
def isDct (x : W) (st : Store) : Bool := match asD st x with
  | some (.dct _) => true
  | _ => false
/-- o.m(..), o a list -/
def methL (g : W → List W → Store → Res W) (o : M W) (a : M (List W)) : M W := fun env st => (o env st).bind fun x s1 => if isLst x s1 = true then (a env s1).bind fun ws s2 => g x ws s2 else .stuck
def methD (g : W → List W → Store → Res W) (o : M W) (a : M (List W)) : M W := fun env st => (o env st).bind fun x s1 => if isDct x s1 = true then (a env s1).bind fun ws s2 => g x ws s2 else .stuck
def arg0 (g : W → Store → Res W) : W → List W → Store → Res W
  | x, [], st => g x st
  | _, _, _ => .stuck
def arg1 (g : W → W → Store → Res W) : W → List W → Store → Res W
  | x, [y], st => g x y st
  | _, _, _ => .stuck
def arg2 (g : W → W → W → Store → Res W) : W → List W → Store → Res W
  | x, [y, z], st => g x y z st
  | _, _, _ => .stuck

/-! ### tests -/
def W.bl? : W → Option Bool
  | .d (.bl b) => some b
  | _ => none
def onBl {α : Type} (x : W) (k : Bool → Res α) : Res α := match x.bl? with
  | some b => k b
  | none => .stuck
@[simp] theorem onBl_bl {α : Type} (b : Bool) (k : Bool → Res α) : onBl (.d (.bl b)) k = k b := rfl
def tvM (a : M W) : M Bool := fun env st => (a env st).bind fun x s1 => onBl x fun b => .ok b s1
def truM (a : M W) : M Bool := fun env st => (a env st).bind fun x s1 => match asD s1 x with
  | some (.bl b) => .ok b s1
  | some (.lst xs) => .ok (!xs.isEmpty) s1
  | _ => .stuck
def andT (a b : M Bool) : M Bool := fun env st => (a env st).bind fun c s1 => if c = true then b env s1 else .ok false s1
def orT (a b : M Bool) : M Bool := fun env st => (a env st).bind fun c s1 => if c = true then .ok true s1 else b env s1
def notT (a : M Bool) : M Bool := fun env st => (a env st).bind fun c s1 => .ok (!c) s1
/-- .. as values -/
def andV (a b : M W) : M W := fun env st => (a env st).bind fun x s1 => onBl x fun c => if c = true then b env s1 else .ok (.d (.bl false)) s1
def orV (a b : M W) : M W := fun env st => (a env st).bind fun x s1 => onBl x fun c => if c = true then .ok (.d (.bl true)) s1 else b env s1
def notV (a : M W) : M W := fun env st => (a env st).bind fun x s1 => onBl x fun c => .ok (.d (.bl (!c))) s1

/-! ### what is walked -/
/-- the items of a list, a tuple (a live cell is frozen) -/
def itemsW (x : W) (st : Store) : Res (List D) := (toD x st).bind fun d s1 => match d with
  | .lst xs => .ok xs s1
  | .tup xs => .ok xs s1
  | _ => .stuck
def itM (a : M W) : M (List D) := fun env st => (a env st).bind itemsW
noncomputable def rngM (a : M W) : M (List D) := fun env st => (a env st).bind fun x s1 => match asD s1 x with
  | some (.int n) => if rngOk n = true then .ok ((List.range n.toNat).map fun (i : Nat) => .int (i : Int)) s1 else .stuck
  | _ => .stuck
/-- the target of a loop -/
inductive Tgt where
  | name (i : Nat) | pair (i j : Nat)
def setT (t : Tgt) (x : D) (env : Env) : Option Env := match t with
  | .name i => some (env.set i (some (.d x)))
  | .pair i j => match x with
    | .tup [a, b] => some ((env.set i (some (.d a))).set j (some (.d b)))
    | _ => none
/-- no error leaves a comprehension -/
def noErr {α : Type} (r : Res α) : Res α := match r with
  | .err _ _ => .stuck
  | r => r
@[simp] theorem noErr_ok {α : Type} (a : α) (st : Store) : noErr (.ok a st) = .ok a st := rfl
/-- a comprehension's turns -/
def lcLoop (i : Nat) (c : M Bool) (e : M W) : List D → List D → Env → Store → Res (List D)
  | [], acc, _, st => .ok acc st
  | x :: xs, acc, env, st => (noErr (c (env.set i (some (.d x))) st)).bind fun b s1 =>
    if b = true then (noErr (e (env.set i (some (.d x))) s1)).bind fun w s2 => (toD w s2).bind fun d s3 => if acc.length < sizeLine then lcLoop i c e xs (acc ++ [d]) env s3 else .stuck
    else lcLoop i c e xs acc env s1
def yesT : M Bool := fun _ st => .ok true st
def lcM (own : Bool) (it : M (List D)) (i : Nat) (c : M Bool) (e : M W) : M W := fun env st => (it env st).bind fun xs s1 => (lcLoop i c e xs [] env s1).bind fun ys s2 => newL own ys s2

/-! ### statements -/
def passS : MS := fun env st => .nx env st
def bindS {α : Type} (r : Res α) (env : Env) (k : α → Store → RS) : RS := match r with
  | .ok a st => k a st
  | .err c st => .err c env st
  | .stuck => .stuck
@[simp] theorem bindS_ok {α : Type} (a : α) (st : Store) (env : Env) (k : α → Store → RS) : bindS (.ok a st) env k = k a st := rfl
@[simp] theorem bindS_err {α : Type} (c : Exc) (st : Store) (env : Env) (k : α → Store → RS) : bindS (.err c st) env k = .err c env st := rfl
@[simp] theorem bindS_stuck {α : Type} (env : Env) (k : α → Store → RS) : bindS (.stuck) env k = .stuck := rfl
def seqM (a b : MS) : MS := fun env st => match a env st with
  | .nx env' st' => b env' st'
  | r => r
def asgM (i : Nat) (e : M W) : MS := fun env st => bindS (e env st) env fun w s1 => .nx (env.set i (some w)) s1
def sets : List Nat → List D → Env → Option Env
  | [], [], env => some env
  | i :: is, x :: xs, env => sets is xs (env.set i (some (.d x)))
  | _, _, _ => none
def asgTM (is : List Nat) (e : M W) : MS := fun env st => bindS (e env st) env fun w s1 => match asD s1 w with
  | some (.tup xs) => match sets is xs env with
    | some env' => .nx env' s1
    | none => .stuck
  | _ => .stuck
/-- x[i] = v, x a list -/
def setLM (x i v : M W) : MS := fun env st => bindS (v env st) env fun wv s1 => bindS (x env s1) env fun wx s2 => bindS (i env s2) env fun wi s3 =>
  bindS (toD wv s3) env fun d s4 => match wx with
    | .c k => match s4[k]?, asD s4 wi with
      | some (.lst xs), some (.int j) => match ixN xs.length j with
        | some n => .nx env (s4.set k (.lst (xs.set n d)))
        | none => .stuck
      | _, _ => .stuck
    | _ => .stuck
def setDM (x i v : M W) : MS := fun env st => bindS (v env st) env fun wv s1 => bindS (x env s1) env fun wx s2 => bindS (i env s2) env fun wi s3 =>
  bindS (toD wv s3) env fun d s4 => match wx with
    | .c k => match s4[k]?, asD s4 wi with
      | some (.dct kvs), some (.str s) => if kvs.length < sizeLine then .nx env (s4.set k (.dct (putD kvs s d))) else .stuck
      | _, _ => .stuck
    | _ => .stuck
def expM (e : M W) : MS := fun env st => bindS (e env st) env fun _ s1 => .nx env s1
def retM (e : M W) : MS := fun env st => bindS (e env st) env fun w s1 => .ret w s1
def retN : MS := fun _ st => .ret (.d .non) st
def ifM (c : M Bool) (a b : MS) : MS := fun env st => bindS (c env st) env fun t s1 => if t = true then a env s1 else b env s1
def loopS (t : Tgt) (body : MS) : List D → Env → Store → RS
  | [], env, st => .nx env st
  | x :: xs, env, st => match setT t x env with
    | some env1 => match body env1 st with
      | .nx env' st' => loopS t body xs env' st'
      | r => r
    | none => .stuck
def forM (it : M (List D)) (t : Tgt) (body : MS) : MS := fun env st => bindS (it env st) env fun xs s1 => loopS t body xs env s1
def whileM (c : M Bool) (b : MS) : Nat → MS
  | 0 => fun _ _ => .stuck
  | n + 1 => fun env st => bindS (c env st) env fun t s1 => if t = true then (match b env s1 with
    | .nx env' st' => whileM c b n env' st'
    | r => r) else .nx env s1
def raiseM (c : Exc) : MS := fun env st => .err c env st
/-- no error leaves a suite -/
def noErrS (r : RS) : RS := match r with
  | .err _ _ _ => .stuck
  | r => r
def handle (c : Exc) : List (List Exc × MS) → MS
  | [] => fun env st => .err c env st
  | (cs, s) :: r => fun env st => if c ∈ cs then noErrS (s env st) else handle c r env st
def tryM (body : MS) (hs : List (List Exc × MS)) : MS := fun env st => match body env st with
  | .err c env' st' => handle c hs env' st'
  | r => r
/-! ### functions -/
/-- the objects are as they were -/
def Kept (st st' : Store) : Prop := st.length ≤ st'.length ∧ ∀ k fs, k < st.length → st'[k]? = some (.obj fs) → st[k]? = some (.obj fs)
open Classical in
/-- a call's end: the callee's own cells go -/
noncomputable def fin (st : Store) (w : W) (st' : Store) : Res W := if Kept st st' then (match w with
    | .d x => .ok (.d x) (st'.take st.length)
    | .c k => if k < st.length then .ok (.c k) (st'.take st.length) else (match st'[k]? with
      | some (.lst xs) => .ok (.c st.length) (st'.take st.length ++ [.lst xs])
      | some (.dct kvs) => .ok (.c st.length) (st'.take st.length ++ [.dct kvs])
      | some (.frz d) => .ok (.d d) (st'.take st.length)
      | _ => .stuck)
    | .exc => .stuck) else .stuck
open Classical in
noncomputable def finE (st : Store) (c : Exc) (st' : Store) : Res W := if Kept st st' then .err c (st'.take st.length) else .stuck
/-- a: the parameters; n: all slots -/
noncomputable def fnM (a n : Nat) (body : MS) : Fn := fun ws st => if ws.length = a then (match body (ws.map some ++ List.replicate (n - a) none) st with
  | .nx _ st' => fin st (.d .non) st'
  | .ret w st' => fin st w st'
  | .err c _ st' => finE st c st'
  | .stuck => .stuck) else .stuck
/-- a def that may change objects: its cells stay -/
def rawM (a n : Nat) (body : MS) : Fn := fun ws st => if ws.length = a then (match body (ws.map some ++ List.replicate (n - a) none) st with
  | .nx _ st' => .ok (.d .non) st'
  | .ret w st' => if w.isExc = true then .stuck else .ok w st'
  | .err c _ st' => .err c st'
  | .stuck => .stuck) else .stuck
end Py

/-! How data, values, cells stand in the abstract heap; what a combinator wants of it. -/
namespace Py
open PySem L2

variable {K : PySem.W.Frag}
mutual
/-- data, by the frozen part G -/
inductive RepD (K : PySem.W.Frag) (G : Hp) : V → D → Prop
  | non : RepD K G .non .non
  | bl (b : Bool) : RepD K G (.bl b) (.bl b)
  | int (i : Int) : RepD K G (.int i) (.int i)
  | str (x : Str) : RepD K G (.str x) (.str x)
  | tup {a : Addr} {vs : List V} {xs : List D} : SqT K G a vs → RepL K G vs xs → RepD K G (.ref a) (.tup xs)
  | lst {a : Addr} {vs : List V} {xs : List D} : G a = some (.lst vs) → RepL K G vs xs → RepD K G (.ref a) (.lst xs)
  | dct {a : Addr} {ks : List (Key × V)} {kvs : List (Str × D)} : G a = some (.dK ks) → RepK K G ks kvs → RepD K G (.ref a) (.dct kvs)
  | scr {a : Addr} {ns : List Int} : SqL K G a (ns.map V.int) → RepD K G (.ref a) (.scr ns)
inductive RepL (K : PySem.W.Frag) (G : Hp) : List V → List D → Prop
  | nil : RepL K G [] []
  | cons {v : V} {vs : List V} {d : D} {ds : List D} : RepD K G v d → RepL K G vs ds → RepL K G (v :: vs) (d :: ds)
inductive RepK (K : PySem.W.Frag) (G : Hp) : List (Key × V) → List (Str × D) → Prop
  | nil : RepK K G [] []
  | cons {k : Str} {v : V} {ks : List (Key × V)} {d : D} {kvs : List (Str × D)} : RepD K G v d → RepK K G ks kvs → RepK K G ((.inr k, v) :: ks) ((k, d) :: kvs)
end

def GLe (G G' : Hp) : Prop := ∀ a o, G a = some o → G' a = some o
theorem GLe.refl (G : Hp) : GLe G G := fun _ _ h => h
theorem GLe.trans {G G1 G2 : Hp} (a : GLe G G1) (b : GLe G1 G2) : GLe G G2 := fun x o h => b x o (a x o h)
theorem GLe.sqL {G G' : Hp} {a : Addr} {xs : List V} (e : GLe G G') (h : SqL K G a xs) : SqL K G' a xs := Evl.ex_l e h
theorem GLe.sqT {G G' : Hp} {a : Addr} {xs : List V} (e : GLe G G') (h : SqT K G a xs) : SqT K G' a xs := Evl.ex_t e h

mutual
theorem RepD.mono {G G' : Hp} (e : GLe G G') : ∀ {v : V} {d : D}, RepD K G v d → RepD K G' v d
  | _, _, .non => .non
  | _, _, .bl b => .bl b
  | _, _, .int i => .int i
  | _, _, .str x => .str x
  | _, _, .tup h l => .tup (e.sqT h) (l.mono e)
  | _, _, .lst h l => .lst (e _ _ h) (l.mono e)
  | _, _, .dct h l => .dct (e _ _ h) (l.mono e)
  | _, _, .scr h => .scr (e.sqL h)
theorem RepL.mono {G G' : Hp} (e : GLe G G') : ∀ {v : List V} {d : List D}, RepL K G v d → RepL K G' v d
  | _, _, .nil => .nil
  | _, _, .cons h l => .cons (h.mono e) (l.mono e)
theorem RepK.mono {G G' : Hp} (e : GLe G G') : ∀ {v : List (Key × V)} {d : List (Str × D)}, RepK K G v d → RepK K G' v d
  | _, _, .nil => .nil
  | _, _, .cons h l => .cons (h.mono e) (l.mono e)
end

theorem RepL.length {G : Hp} : ∀ {vs : List V} {ds : List D}, RepL K G vs ds → vs.length = ds.length
  | _, _, .nil => rfl
  | _, _, .cons _ l => congrArg (· + 1) l.length
theorem RepL.append {G : Hp} {vs vs' : List V} {ds ds' : List D} : RepL K G vs ds → RepL K G vs' ds' → RepL K G (vs ++ vs') (ds ++ ds')
  | .nil, h => h
  | .cons r l, h => .cons r (l.append h)
theorem RepL.one {G : Hp} {v : V} {d : D} (h : RepD K G v d) : RepL K G [v] [d] := .cons h .nil
theorem RepL.take {G : Hp} : ∀ (n : Nat) {vs : List V} {ds : List D}, RepL K G vs ds → RepL K G (vs.take n) (ds.take n)
  | 0, _, _, _ => .nil
  | _ + 1, _, _, .nil => .nil
  | n + 1, _, _, .cons r l => .cons r (l.take n)
theorem RepL.drop {G : Hp} : ∀ (n : Nat) {vs : List V} {ds : List D}, RepL K G vs ds → RepL K G (vs.drop n) (ds.drop n)
  | 0, _, _, h => h
  | _ + 1, _, _, .nil => .nil
  | n + 1, _, _, .cons _ l => l.drop n
theorem RepL.get {G : Hp} : ∀ {i : Nat} {vs : List V} {ds : List D} {d : D}, RepL K G vs ds → ds[i]? = some d → ∃ v, vs[i]? = some v ∧ RepD K G v d
  | _, _, _, _, .nil, e => by simp at e
  | 0, _, _, _, .cons r _, e => by simp at e; subst e; exact ⟨_, rfl, r⟩
  | i + 1, _, _, _, .cons _ l, e => by
    obtain ⟨v, h1, h2⟩ := l.get (i := i) (by simpa using e)
    exact ⟨v, by simpa using h1, h2⟩
theorem RepL.set {G : Hp} {v : V} {d : D} (r : RepD K G v d) : ∀ (i : Nat) {vs : List V} {ds : List D}, RepL K G vs ds → RepL K G (vs.set i v) (ds.set i d)
  | _, _, _, .nil => .nil
  | 0, _, _, .cons _ l => .cons r l
  | i + 1, _, _, .cons q l => .cons q (l.set r i)
theorem RepL.reverse {G : Hp} : ∀ {vs : List V} {ds : List D}, RepL K G vs ds → RepL K G vs.reverse ds.reverse
  | _, _, .nil => .nil
  | _, _, .cons r l => by
    rw [List.reverse_cons, List.reverse_cons]
    exact l.reverse.append (.one r)
theorem RepL.dropLast {G : Hp} : ∀ {vs : List V} {ds : List D}, RepL K G vs ds → RepL K G vs.dropLast ds.dropLast
  | _, _, .nil => .nil
  | _, _, .cons r .nil => .nil
  | _, _, .cons r (.cons r' l) => .cons r (RepL.dropLast (.cons r' l))
theorem RepL.reps {G : Hp} {vs : List V} {ds : List D} (h : RepL K G vs ds) : ∀ n : Nat, RepL K G (List.replicate n vs).flatten (List.replicate n ds).flatten
  | 0 => .nil
  | n + 1 => by
    rw [List.replicate_succ, List.replicate_succ, List.flatten_cons, List.flatten_cons]
    exact h.append (h.reps n)
theorem RepL.cut {G : Hp} {vs : List V} {ds : List D} (h : RepL K G vs ds) (lo hi : Option Int) : RepL K G (cutV vs lo hi) (Py.cut ds lo hi) := by
  unfold cutV Py.cut
  rw [h.length]
  exact (h.drop _).take _
theorem RepL.ints {G : Hp} : ∀ ns : List Int, RepL K G (ns.map V.int) (ns.map D.int)
  | [] => .nil
  | n :: ns => .cons (.int n) (RepL.ints ns)
theorem RepL.strs {G : Hp} : ∀ {ds : List D} {vs : List V} {ys : List Str}, RepL K G vs ds → strsOf ds = some ys → vs = ys.map V.str
  | [], _, _, .nil, e => by
    cases e
    rfl
  | d :: ds, _, _, .cons r l, e => by
    cases r <;> simp only [strsOf, reduceCtorEq] at e
    cases q : strsOf ds with
    | none => rw [q] at e; cases e
    | some zs =>
      rw [q] at e
      cases e
      rw [RepL.strs l q]
      rfl
/-! ### dicts -/
theorem RepK.length {G : Hp} : ∀ {ks : List (Key × V)} {kvs : List (Str × D)}, RepK K G ks kvs → ks.length = kvs.length
  | _, _, .nil => rfl
  | _, _, .cons _ l => congrArg (· + 1) l.length
theorem valV_cons {k k' : Key} {v : V} {r : List (Key × V)} : valV ((k', v) :: r) k = if k' = k then some v else valV r k := by
  unfold valV
  by_cases h : k' = k
  · rw [if_pos h, List.find?_cons_of_pos (by simpa using h)]; rfl
  · rw [if_neg h, List.find?_cons_of_neg (by simpa using h)]
theorem RepK.look {G : Hp} {s : Str} : ∀ {ks : List (Key × V)} {kvs : List (Str × D)}, RepK K G ks kvs →
    (look s kvs = none ∧ valV ks (.inr s) = none) ∨ ∃ d v, look s kvs = some d ∧ valV ks (.inr s) = some v ∧ RepD K G v d
  | _, _, .nil => .inl ⟨rfl, rfl⟩
  | _, _, .cons (k := k) (v := v) (d := d) (kvs := kvs) r l => by
    rw [valV_cons]
    by_cases h : k = s
    · subst h
      refine .inr ⟨d, v, ?_, ?_, r⟩
      · show (if k = k then some d else _) = _
        rw [if_pos rfl]
      · rw [if_pos rfl]
    · have h' : ¬ (Sum.inr k : Key) = .inr s := fun e => h (Sum.inr.inj e)
      rw [if_neg h']
      have e : Py.look s ((k, d) :: kvs) = Py.look s kvs := if_neg h
      rw [e]
      exact l.look
theorem RepK.look_some {G : Hp} {s : Str} {ks : List (Key × V)} {kvs : List (Str × D)} {d : D} (h : RepK K G ks kvs) (e : Py.look s kvs = some d) : ∃ v, valV ks (.inr s) = some v ∧ RepD K G v d := by
  rcases h.look (s := s) with ⟨q, _⟩ | ⟨d', v, q, q2, r⟩
  · rw [q] at e; cases e
  · rw [q] at e; cases e; exact ⟨v, q2, r⟩
theorem RepK.isSome {G : Hp} {s : Str} {ks : List (Key × V)} {kvs : List (Str × D)} (h : RepK K G ks kvs) : (valV ks (.inr s)).isSome = (Py.look s kvs).isSome := by
  rcases h.look (s := s) with ⟨q, q2⟩ | ⟨d', v, q, q2, r⟩
  · rw [q, q2]; rfl
  · rw [q, q2]; rfl
theorem RepK.any {G : Hp} {s : Str} : ∀ {ks : List (Key × V)} {kvs : List (Str × D)}, RepK K G ks kvs → (ks.any fun kv => decide (kv.1 = Sum.inr s)) = kvs.any fun kv => decide (kv.1 = s)
  | _, _, .nil => rfl
  | _, _, .cons (k := k) _ l => by
    rw [List.any_cons, List.any_cons, l.any]
    have e : decide ((Sum.inr k : Key) = .inr s) = decide (k = s) := key_rr k s
    rw [e]
theorem RepK.append {G : Hp} {ks ks' : List (Key × V)} {kvs kvs' : List (Str × D)} : RepK K G ks kvs → RepK K G ks' kvs' → RepK K G (ks ++ ks') (kvs ++ kvs')
  | .nil, h => h
  | .cons r l, h => .cons r (l.append h)
theorem RepK.map {G : Hp} {s : Str} {v : V} {d : D} (r : RepD K G v d) : ∀ {ks : List (Key × V)} {kvs : List (Str × D)}, RepK K G ks kvs →
    RepK K G (ks.map fun kv => if kv.1 = Sum.inr s then (kv.1, v) else kv) (kvs.map fun kv => if kv.1 = s then (kv.1, d) else kv)
  | _, _, .nil => .nil
  | _, _, .cons (k := k) r' l => by
    rw [List.map_cons, List.map_cons]
    by_cases h : k = s
    · rw [if_pos (show (Sum.inr k : Key) = .inr s by rw [h]), if_pos h]
      exact .cons r (l.map r)
    · have h' : ¬ (Sum.inr k : Key) = .inr s := fun e => h (Sum.inr.inj e)
      rw [if_neg h', if_neg h]
      exact .cons r' (l.map r)
theorem RepK.put {G : Hp} {s : Str} {v : V} {d : D} {ks : List (Key × V)} {kvs : List (Str × D)} (h : RepK K G ks kvs) (r : RepD K G v d) : RepK K G (putK ks (.inr s) v) (putD kvs s d) := by
  unfold putK putD
  rw [h.any]
  split
  · exact h.map r
  · exact h.append (.cons r .nil)
theorem RepK.drop {G : Hp} {s : Str} : ∀ {ks : List (Key × V)} {kvs : List (Str × D)}, RepK K G ks kvs → RepK K G (dropK ks (.inr s)) (dropD kvs s)
  | _, _, .nil => .nil
  | _, _, .cons (k := k) r l => by
    unfold dropK dropD
    by_cases h : k = s
    · have h' : (Sum.inr k : Key) = .inr s := by rw [h]
      rw [List.filter_cons_of_neg (by simpa using h'), List.filter_cons_of_neg (by simpa using h)]
      exact l.drop
    · have h' : ¬ (Sum.inr k : Key) = .inr s := fun e => h (Sum.inr.inj e)
      rw [List.filter_cons_of_pos (by simpa using h'), List.filter_cons_of_pos (by simpa using h)]
      exact .cons r l.drop
theorem RepK.keys {G : Hp} : ∀ {ks : List (Key × V)} {kvs : List (Str × D)}, RepK K G ks kvs → RepL K G (ks.map fun kv => kV kv.1) (kvs.map fun p => D.str p.1)
  | _, _, .nil => .nil
  | _, _, .cons (k := k) _ l => .cons (.str k) l.keys
theorem RepK.zip {G : Hp} : ∀ {ks : List Str} {vs : List V} {ds : List D}, RepL K G vs ds → RepK K G ((ks.zip vs).map fun p => ((Sum.inr p.1 : Key), p.2)) (ks.zip ds)
  | [], _, _, _ => by simp; exact .nil
  | _ :: _, _, _, .nil => by simp; exact .nil
  | k :: ks, _, _, .cons r l => by
    rw [List.zip_cons_cons, List.zip_cons_cons, List.map_cons]
    exact .cons r (RepK.zip l)
end Py

/-! The state: frozen part G, cells' addresses m, cells st. -/
namespace Py
open PySem L2

/-- the class of the machine, the classes of the errors, the error that a suite holds -/
structure Pm where
  CM : Addr
  EC : Exc → Addr
  xa : Option Addr := none
def Pm.core (P : Pm) : Pm := { P with xa := none }

def RepW (K : PySem.W.Frag) (P : Pm) (G : Hp) (m : List Addr) (v : V) : W → Prop
  | .d x => RepD K G v x
  | .c k => ∃ a, m[k]? = some a ∧ v = .ref a
  | .exc => ∃ a, P.xa = some a ∧ v = .ref a
inductive RepWs (K : PySem.W.Frag) (P : Pm) (G : Hp) (m : List Addr) : List V → List W → Prop
  | nil : RepWs K P G m [] []
  | cons {v : V} {vs : List V} {w : W} {ws : List W} : RepW K P G m v w → RepWs K P G m vs ws → RepWs K P G m (v :: vs) (w :: ws)
inductive RepF (K : PySem.W.Frag) (P : Pm) (G : Hp) (m : List Addr) : List (Str × V) → List (Str × W) → Prop
  | nil : RepF K P G m [] []
  | cons {k : Str} {v : V} {vs : List (Str × V)} {w : W} {ws : List (Str × W)} : RepW K P.core G m v w → RepF K P G m vs ws → RepF K P G m ((k, v) :: vs) ((k, w) :: ws)

def CellOk (K : PySem.W.Frag) (P : Pm) (G : Hp) (m : List Addr) (H : Hp) (a : Addr) : Cell → Prop
  | .lst xs => G a = none ∧ ∃ vs, H a = some (.lst vs) ∧ RepL K G vs xs
  | .dct kvs => G a = none ∧ ∃ ks, H a = some (.dK ks) ∧ RepK K G ks kvs
  | .obj fs => G a = none ∧ ∃ dx vs, H a = some (.ins P.CM dx vs) ∧ RepF K P G m vs fs
  | .frz d => RepD K G (.ref a) d

structure RS0 (K : PySem.W.Frag) (P : Pm) (G : Hp) (m : List Addr) (H : Hp) (st : Store) : Prop where
  sub : ∀ a o, G a = some o → H a = some o
  len : m.length = st.length
  nd : m.Nodup
  inH : ∀ a ∈ m, H a ≠ none
  cell : ∀ (k : Nat) (a : Addr) (c : Cell), m[k]? = some a → st[k]? = some c → CellOk K P G m H a c
structure REnv (K : PySem.W.Frag) (P : Pm) (G : Hp) (m : List Addr) (σ : St) (env : Env) : Prop where
  len : σ.length = env.length
  get : ∀ (i : Nat) (w : W), env[i]? = some (some w) → ∃ v, σ[i]? = some (some v) ∧ RepW K P G m v w
structure Ext (G : Hp) (m : List Addr) (H : Hp) (G' : Hp) (m' : List Addr) (H' : Hp) : Prop where
  g : GLe G G'
  pre : m <+: m'
  new : ∀ b ∈ m', b ∈ m ∨ H b = none
  fr : ∀ b o, H b = some o → b ∉ m → H' b = some o
  th : ∀ b, H b ≠ none → H' b ≠ none
  gn : ∀ b, G' b ≠ none → G b ≠ none ∨ b ∈ m' ∨ H b = none

section
variable {K : PySem.W.Frag} {P : Pm} {G G' G1 G2 : Hp} {m m' m1 m2 : List Addr} {H H' H1 H2 : Hp} {st st' : Store} {σ : St} {env : Env}
theorem pre_get {k : Nat} {a : Addr} (h : m <+: m') (e : m[k]? = some a) : m'[k]? = some a := by
  obtain ⟨t, rfl⟩ := h
  rw [List.getElem?_append_left (List.getElem?_eq_some_iff.mp e).1]
  exact e
theorem RepW.mono {v : V} {w : W} (g : GLe G G') (p : m <+: m') (h : RepW K P G m v w) : RepW K P G' m' v w := by
  cases w with
  | d x => exact RepD.mono g h
  | c k => obtain ⟨a, e, q⟩ := h; exact ⟨a, pre_get p e, q⟩
  | exc => exact h
theorem RepWs.mono {v : List V} {w : List W} (g : GLe G G') (p : m <+: m') (h : RepWs K P G m v w) : RepWs K P G' m' v w := by
  induction h with
  | nil => exact .nil
  | cons r _ ih => exact .cons (r.mono g p) ih
theorem RepF.mono {v : List (Str × V)} {w : List (Str × W)} (g : GLe G G') (p : m <+: m') (h : RepF K P G m v w) : RepF K P G' m' v w := by
  induction h with
  | nil => exact .nil
  | cons r _ ih => exact .cons (r.mono g p) ih
theorem REnv.mono (g : GLe G G') (p : m <+: m') (h : REnv K P G m σ env) : REnv K P G' m' σ env :=
  ⟨h.len, fun i w e => let ⟨v, q, r⟩ := h.get i w e; ⟨v, q, r.mono g p⟩⟩
theorem REnv.set {i : Nat} {v : V} {w : W} (h : REnv K P G m σ env) (r : RepW K P G m v w) : REnv K P G m (σ.set i (some v)) (env.set i (some w)) := by
  refine ⟨by rw [List.length_set, List.length_set]; exact h.len, fun j w' e => ?_⟩
  by_cases hj : i = j
  · subst hj
    by_cases hl : i < env.length
    · rw [List.getElem?_set_self hl] at e
      cases e
      exact ⟨v, by rw [List.getElem?_set_self (by rw [h.len]; exact hl)], r⟩
    · rw [List.getElem?_eq_none (by rw [List.length_set]; omega)] at e
      cases e
  · rw [List.getElem?_set_ne hj] at e
    rw [List.getElem?_set_ne hj]
    exact h.get j w' e
theorem Ext.refl : Ext G m H G m H := ⟨GLe.refl G, List.prefix_refl m, fun _ h => .inl h, fun _ _ h _ => h, fun _ h => h, fun _ h => .inl h⟩
theorem Ext.trans (a : Ext G m H G1 m1 H1) (b : Ext G1 m1 H1 G2 m2 H2) : Ext G m H G2 m2 H2 := by
  refine ⟨a.g.trans b.g, a.pre.trans b.pre, fun x hx => ?_, fun x o h hm => ?_, fun x h => b.th x (a.th x h), fun x h => ?_⟩
  · rcases b.new x hx with h | h
    · exact a.new x h
    · cases q : H x with
      | none => exact .inr rfl
      | some o => exact absurd h (a.th x (by rw [q]; simp))
  · refine b.fr x o (a.fr x o h hm) fun hx => ?_
    rcases a.new x hx with q | q
    · exact hm q
    · rw [q] at h; cases h
  · rcases b.gn x h with h | h | h
    · rcases a.gn x h with h | h | h
      · exact .inl h
      · exact .inr (.inl (b.pre.subset h))
      · exact .inr (.inr h)
    · exact .inr (.inl h)
    · refine .inr (.inr ?_)
      cases q : H x with
      | none => rfl
      | some o => exact absurd h (a.th x (by rw [q]; simp))
/-- the state is the same: only the frozen part, the heap grow -/
theorem Ext.same (g : GLe G G') (fr : ∀ b o, H b = some o → H' b = some o) (gn : ∀ b, G' b ≠ none → G b ≠ none ∨ b ∈ m ∨ H b = none) : Ext G m H G' m H' :=
  ⟨g, List.prefix_refl m, fun _ h => .inl h, fun b o h _ => fr b o h, (fun b h => by
    cases q : H b with
    | none => exact absurd q h
    | some o => rw [fr b o q]; simp), gn⟩
theorem gn_upd {a : Addr} {o : HO} (h : a ∈ m ∨ H a = none) : ∀ b, (upd G a o) b ≠ none → G b ≠ none ∨ b ∈ m ∨ H b = none := fun b hb => by
  by_cases e : b = a
  · subst e; exact .inr h
  · rw [upd_ne e] at hb; exact .inl hb
theorem CellOk.mono {a : Addr} {c : Cell} (g : GLe G G') (p : m <+: m') (fr : ∀ o, H a = some o → H' a = some o) (ng : G a = none → G' a = none) (h : CellOk K P G m H a c) : CellOk K P G' m' H' a c := by
  cases c with
  | lst xs => obtain ⟨n, vs, e, r⟩ := h; exact ⟨ng n, vs, fr _ e, r.mono g⟩
  | dct xs => obtain ⟨n, vs, e, r⟩ := h; exact ⟨ng n, vs, fr _ e, r.mono g⟩
  | obj xs => obtain ⟨n, dx, vs, e, r⟩ := h; exact ⟨ng n, dx, vs, fr _ e, r.mono g p⟩
  | frz d => exact RepD.mono g h

/-! ### outcomes -/
/-- what is wanted of an error -/
def OutG {α β : Type} (K : PySem.W.Frag) (P : Pm) (G : Hp) (m : List Addr) (H : Hp) (Rp : Hp → List Addr → β → α → Prop) (r : Res α) (Q : β → Hp → Prop) (E : Exc → Hp → Prop) : Prop := match r with
  | .ok a st' => ∀ G' m' H' v, Ext G m H G' m' H' → RS0 K P G' m' H' st' → Rp G' m' v a → Q v H'
  | .err c st' => ∀ G' m' H', Ext G m H G' m' H' → RS0 K P G' m' H' st' → E c H'
  | .stuck => False
theorem OutG.shift {α β : Type} {Rp : Hp → List Addr → β → α → Prop} {r : Res α} {Q : β → Hp → Prop} {E : Exc → Hp → Prop} (h : OutG K P G m H Rp r Q E) (x : Ext G m H G' m' H') : OutG K P G' m' H' Rp r Q E := by
  cases r with
  | ok a st' => exact fun G2 m2 H2 v y s q => h G2 m2 H2 v (x.trans y) s q
  | err c st' => exact fun G2 m2 H2 y s => h G2 m2 H2 (x.trans y) s
  | stuck => exact h
/-- a reading -/
def rdG {α β : Type} (K : PySem.W.Frag) (P : Pm) (Wx : WX) (Rp : Hp → List Addr → β → α → Prop) (f : M α) : St → Hp → (β → Hp → Prop) → Prop := fun σ H Q =>
  ∃ G m env st, REnv K P G m σ env ∧ RS0 K P G m H st ∧ OutG K P G m H Rp (f env st) Q fun c H' => Wx (.ref (P.EC c)) none σ H'
abbrev rE (K : PySem.W.Frag) (P : Pm) (Wx : WX) (f : M W) : TE := rdG K P Wx (RepW K P) f
abbrev rT (K : PySem.W.Frag) (P : Pm) (Wx : WX) (f : M Bool) : TT := rdG K P Wx (fun _ _ b c => b = c) f
abbrev rA (K : PySem.W.Frag) (P : Pm) (Wx : WX) (f : M (List W)) : TA := rdG K P Wx (RepWs K P) f
abbrev rO (K : PySem.W.Frag) (P : Pm) (Wx : WX) (f : M (Option Int)) : TO := rdG K P Wx (fun _ _ b c => b = c) f
def OutS (K : PySem.W.Frag) (P : Pm) (Wx : WX) (G : Hp) (m : List Addr) (H : Hp) (r : RS) (D : Ends) : Prop := match r with
  | .nx env' st' => ∀ G' m' σ' H', Ext G m H G' m' H' → REnv K P G' m' σ' env' → RS0 K P G' m' H' st' → D.nx σ' H'
  | .ret w st' => ∀ G' m' H' v, Ext G m H G' m' H' → RS0 K P G' m' H' st' → RepW K P G' m' v w → D.rt v H'
  | .err c env' st' => ∀ G' m' σ' H', Ext G m H G' m' H' → REnv K P G' m' σ' env' → RS0 K P G' m' H' st' → Wx (.ref (P.EC c)) none σ' H'
  | .stuck => False
theorem OutS.shift {Wx : WX} {r : RS} {D : Ends} (h : OutS K P Wx G m H r D) (x : Ext G m H G' m' H') : OutS K P Wx G' m' H' r D := by
  cases r with
  | nx a st' => exact fun G2 m2 σ' H2 y e s => h G2 m2 σ' H2 (x.trans y) e s
  | ret a st' => exact fun G2 m2 H2 v y s q => h G2 m2 H2 v (x.trans y) s q
  | err c e st' => exact fun G2 m2 σ' H2 y e s => h G2 m2 σ' H2 (x.trans y) e s
  | stuck => exact h
def rS (K : PySem.W.Frag) (P : Pm) (Wx : WX) (f : MS) : TS := fun D σ H => ∃ G m env st, REnv K P G m σ env ∧ RS0 K P G m H st ∧ OutS K P Wx G m H (f env st) D

/-- the first part of a sequence -/
theorem goG {α β γ δ : Type} {Wx : WX} {Rp : Hp → List Addr → β → α → Prop} {Rp' : Hp → List Addr → δ → γ → Prop} {f : M α} {k : α → Store → Res γ} {Q : δ → Hp → Prop} {R : β → Hp → Prop}
    (hE : REnv K P G m σ env) (hS : RS0 K P G m H st) (ho : OutG K P G m H Rp' ((f env st).bind k) Q fun c H' => Wx (.ref (P.EC c)) none σ H')
    (hk : ∀ G1 m1 H1 v a st1, Ext G m H G1 m1 H1 → REnv K P G1 m1 σ env → RS0 K P G1 m1 H1 st1 → Rp G1 m1 v a → OutG K P G1 m1 H1 Rp' (k a st1) Q (fun c H' => Wx (.ref (P.EC c)) none σ H') → R v H1) :
    rdG K P Wx Rp f σ H R := by
  refine ⟨G, m, env, st, hE, hS, ?_⟩
  cases e : f env st with
  | ok a st1 =>
    rw [e] at ho
    exact fun G1 m1 H1 v x s q => hk G1 m1 H1 v a st1 x (hE.mono x.g x.pre) s q (ho.shift x)
  | err c st1 =>
    rw [e] at ho
    exact ho
  | stuck =>
    rw [e] at ho
    exact ho
theorem goS {α β : Type} {Wx : WX} {Rp : Hp → List Addr → β → α → Prop} {f : M α} {k : α → Store → RS} {D : Ends} {R : β → Hp → Prop}
    (hE : REnv K P G m σ env) (hS : RS0 K P G m H st) (ho : OutS K P Wx G m H (bindS (f env st) env k) D)
    (hk : ∀ G1 m1 H1 v a st1, Ext G m H G1 m1 H1 → REnv K P G1 m1 σ env → RS0 K P G1 m1 H1 st1 → Rp G1 m1 v a → OutS K P Wx G1 m1 H1 (k a st1) D → R v H1) :
    rdG K P Wx Rp f σ H R := by
  refine ⟨G, m, env, st, hE, hS, ?_⟩
  cases e : f env st with
  | ok a st1 =>
    rw [e] at ho
    exact fun G1 m1 H1 v x s q => hk G1 m1 H1 v a st1 x (hE.mono x.g x.pre) s q (ho.shift x)
  | err c st1 =>
    rw [e] at ho
    exact fun G1 m1 H1 x s => ho G1 m1 σ H1 x (hE.mono x.g x.pre) s
  | stuck =>
    rw [e] at ho
    exact ho

/-! ### what a value shows -/
theorem view {v : V} {w : W} {d : D} (hS : RS0 K P G m H st) (r : RepW K P G m v w) (e : asD st w = some d) :
    (∃ G0, GLe G G0 ∧ (∀ a o, G0 a = some o → H a = some o) ∧ RepD K G0 v d) := by
  cases w with
  | d x =>
    cases e
    exact ⟨G, GLe.refl G, hS.sub, r⟩
  | exc => cases e
  | c k =>
    obtain ⟨a, ha, rfl⟩ := r
    have e' : (match st[k]? with
      | some (.lst xs) => some (D.lst xs)
      | some (.dct kvs) => some (D.dct kvs)
      | some (.frz d) => some d
      | _ => none) = some d := e
    cases q : st[k]? with
    | none => rw [q] at e'; cases e'
    | some c =>
      rw [q] at e'
      have z := hS.cell k a c ha q
      cases c with
      | lst xs =>
        cases e'
        obtain ⟨n, vs, eh, rl⟩ := z
        have g : GLe G (upd G a (.lst vs)) := fun b o h => by rw [upd_ne (ne_of_none h n)]; exact h
        refine ⟨upd G a (.lst vs), g, fun b o h => ?_, .lst upd_same (rl.mono g)⟩
        by_cases hb : b = a
        · subst hb; rw [upd_same] at h; cases h; exact eh
        · rw [upd_ne hb] at h; exact hS.sub b o h
      | dct xs =>
        cases e'
        obtain ⟨n, vs, eh, rl⟩ := z
        have g : GLe G (upd G a (.dK vs)) := fun b o h => by rw [upd_ne (ne_of_none h n)]; exact h
        refine ⟨upd G a (.dK vs), g, fun b o h => ?_, .dct upd_same (rl.mono g)⟩
        by_cases hb : b = a
        · subst hb; rw [upd_same] at h; cases h; exact eh
        · rw [upd_ne hb] at h; exact hS.sub b o h
      | obj fs => cases e'
      | frz x => cases e'; exact ⟨G, GLe.refl G, hS.sub, z⟩
theorem view_int {v : V} {w : W} {i : Int} (hS : RS0 K P G m H st) (r : RepW K P G m v w) (e : asD st w = some (.int i)) : v = .int i := by
  obtain ⟨_, _, _, q⟩ := view hS r e
  cases q; rfl
theorem view_bl {v : V} {w : W} {i : Bool} (hS : RS0 K P G m H st) (r : RepW K P G m v w) (e : asD st w = some (.bl i)) : v = .bl i := by
  obtain ⟨_, _, _, q⟩ := view hS r e
  cases q; rfl
theorem view_str {v : V} {w : W} {i : Str} (hS : RS0 K P G m H st) (r : RepW K P G m v w) (e : asD st w = some (.str i)) : v = .str i := by
  obtain ⟨_, _, _, q⟩ := view hS r e
  cases q; rfl
theorem view_lst {v : V} {w : W} {xs : List D} (hS : RS0 K P G m H st) (r : RepW K P G m v w) (e : asD st w = some (.lst xs)) : ∃ a vs, v = .ref a ∧ H a = some (.lst vs) ∧ RepL K G vs xs := by
  cases w with
  | d x =>
    cases e
    cases r with
    | lst h l => exact ⟨_, _, rfl, hS.sub _ _ h, l⟩
  | exc => cases e
  | c k =>
    obtain ⟨a, ha, rfl⟩ := r
    have e' : (match st[k]? with
      | some (.lst xs) => some (D.lst xs)
      | some (.dct kvs) => some (D.dct kvs)
      | some (.frz d) => some d
      | _ => none) = some (.lst xs) := e
    cases q : st[k]? with
    | none => rw [q] at e'; cases e'
    | some c =>
      rw [q] at e'
      have z := hS.cell k a c ha q
      cases c with
      | lst ys =>
        cases e'
        obtain ⟨n, vs, eh, rl⟩ := z
        exact ⟨a, vs, rfl, eh, rl⟩
      | dct _ => cases e'
      | obj _ => cases e'
      | frz x =>
        cases e'
        cases z with
        | lst h l => exact ⟨_, _, rfl, hS.sub _ _ h, l⟩
theorem view_dct {v : V} {w : W} {xs : List (Str × D)} (hS : RS0 K P G m H st) (r : RepW K P G m v w) (e : asD st w = some (.dct xs)) : ∃ a vs, v = .ref a ∧ H a = some (.dK vs) ∧ RepK K G vs xs := by
  cases w with
  | d x =>
    cases e
    cases r with
    | dct h l => exact ⟨_, _, rfl, hS.sub _ _ h, l⟩
  | exc => cases e
  | c k =>
    obtain ⟨a, ha, rfl⟩ := r
    have e' : (match st[k]? with
      | some (.lst xs) => some (D.lst xs)
      | some (.dct kvs) => some (D.dct kvs)
      | some (.frz d) => some d
      | _ => none) = some (.dct xs) := e
    cases q : st[k]? with
    | none => rw [q] at e'; cases e'
    | some c =>
      rw [q] at e'
      have z := hS.cell k a c ha q
      cases c with
      | lst _ => cases e'
      | dct ys =>
        cases e'
        obtain ⟨n, vs, eh, rl⟩ := z
        exact ⟨a, vs, rfl, eh, rl⟩
      | obj _ => cases e'
      | frz x =>
        cases e'
        cases z with
        | dct h l => exact ⟨_, _, rfl, hS.sub _ _ h, l⟩
theorem RS0.sqT {a : Addr} {vs : List V} (hS : RS0 K P G m H st) (h : SqT K G a vs) : SqT K H a vs := Evl.ex_t hS.sub h
theorem RS0.sqL {a : Addr} {vs : List V} (hS : RS0 K P G m H st) (h : SqL K G a vs) : SqL K H a vs := Evl.ex_l hS.sub h
theorem view_frz {w : W} {d : D} (e : asD st w = some d) (hd : (∀ xs, d ≠ .lst xs) ∧ ∀ xs, d ≠ .dct xs) : w = .d d ∨ ∃ k, w = .c k ∧ st[k]? = some (.frz d) := by
  cases w with
  | d x => cases e; exact .inl rfl
  | exc => cases e
  | c k =>
    have e' : (match st[k]? with
      | some (.lst xs) => some (D.lst xs)
      | some (.dct kvs) => some (D.dct kvs)
      | some (.frz d) => some d
      | _ => none) = some d := e
    cases q : st[k]? with
    | none => rw [q] at e'; cases e'
    | some c =>
      rw [q] at e'
      cases c with
      | lst ys => cases e'; exact absurd rfl (hd.1 ys)
      | dct ys => cases e'; exact absurd rfl (hd.2 ys)
      | obj _ => cases e'
      | frz x => cases e'; exact .inr ⟨k, rfl, q⟩
theorem view_plain {v : V} {w : W} {d : D} (hS : RS0 K P G m H st) (r : RepW K P G m v w) (e : asD st w = some d) (hd : (∀ xs, d ≠ .lst xs) ∧ ∀ xs, d ≠ .dct xs) : RepD K G v d := by
  rcases view_frz e hd with rfl | ⟨k, rfl, q⟩
  · exact r
  · obtain ⟨a, ha, rfl⟩ := r
    exact hS.cell k a _ ha q
theorem view_tup {v : V} {w : W} {xs : List D} (hS : RS0 K P G m H st) (r : RepW K P G m v w) (e : asD st w = some (.tup xs)) : ∃ a vs, v = .ref a ∧ SqT K G a vs ∧ RepL K G vs xs := by
  cases view_plain hS r e ⟨(fun _ h => nomatch h), (fun _ h => nomatch h)⟩ with
  | tup h l => exact ⟨_, _, rfl, h, l⟩
theorem view_scr {v : V} {w : W} {ns : List Int} (hS : RS0 K P G m H st) (r : RepW K P G m v w) (e : asD st w = some (.scr ns)) : ∃ a, v = .ref a ∧ SqL K G a (ns.map V.int) := by
  cases view_plain hS r e ⟨(fun _ h => nomatch h), (fun _ h => nomatch h)⟩ with
  | scr h => exact ⟨_, rfl, h⟩

/-! ### the state changes -/
theorem RS0.fresh_not_mem {p : Addr} (hS : RS0 K P G m H st) (hp : H p = none) : p ∉ m := fun h => hS.inH p h hp
theorem RS0.freshG {p : Addr} (hS : RS0 K P G m H st) (hp : H p = none) : G p = none := by
  cases q : G p with
  | none => rfl
  | some o => rw [hS.sub p o q] at hp; cases hp
/-- new frozen data at p -/
theorem RS0.newD {p : Addr} {o : HO} (hS : RS0 K P G m H st) (hp : H p = none) : RS0 K P (upd G p o) m (upd H p o) st ∧ Ext G m H (upd G p o) m (upd H p o) := by
  have gp := hS.freshG hp
  have g : GLe G (upd G p o) := fun b u h => by rw [upd_ne (ne_of_none h gp)]; exact h
  have fr : ∀ b u, H b = some u → (upd H p o) b = some u := fun b u h => by rw [upd_ne (ne_of_none h hp)]; exact h
  have ext : Ext G m H (upd G p o) m (upd H p o) := .same g fr (gn_upd (.inr hp))
  refine ⟨⟨fun b u h => ?_, hS.len, hS.nd, fun a ha => ext.th a (hS.inH a ha), fun k a c ha hc => ?_⟩, ext⟩
  · by_cases hb : b = p
    · subst hb; rw [upd_same] at h ⊢; exact h
    · rw [upd_ne hb] at h; exact fr b u (hS.sub b u h)
  · have hne : a ≠ p := fun z => hS.fresh_not_mem hp (z ▸ List.mem_of_getElem? ha)
    exact (hS.cell k a c ha hc).mono g (List.prefix_refl m) (fun u h => fr a u h) fun n => by rw [upd_ne hne]; exact n
/-- a new cell at p -/
theorem RS0.newC {p : Addr} {o : HO} {c : Cell} (hS : RS0 K P G m H st) (hp : H p = none) (hc : CellOk K P G (m ++ [p]) (upd H p o) p c) : RS0 K P G (m ++ [p]) (upd H p o) (st ++ [c]) ∧ Ext G m H G (m ++ [p]) (upd H p o) := by
  have fr : ∀ b u, H b = some u → (upd H p o) b = some u := fun b u h => by rw [upd_ne (ne_of_none h hp)]; exact h
  have ext : Ext G m H G (m ++ [p]) (upd H p o) := ⟨GLe.refl G, List.prefix_append m [p], fun b hb => by
    rcases List.mem_append.mp hb with h | h
    · exact .inl h
    · rw [List.mem_singleton] at h; subst h; exact .inr hp, fun b u h _ => fr b u h, fun b h => by
    cases q : H b with
    | none => exact absurd q h
    | some u => rw [fr b u q]; simp, fun _ h => .inl h⟩
  refine ⟨⟨fun b u h => fr b u (hS.sub b u h), by simp [hS.len], ?_, fun a ha => ?_, fun k a c' ha hc' => ?_⟩, ext⟩
  · rw [List.nodup_append]
    refine ⟨hS.nd, by simp, fun a h b hb => ?_⟩
    rw [List.mem_singleton] at hb
    subst hb
    intro z
    subst z
    exact hS.fresh_not_mem hp h
  · rcases List.mem_append.mp ha with h | h
    · exact ext.th a (hS.inH a h)
    · rw [List.mem_singleton] at h; subst h; rw [upd_same]; simp
  · by_cases hk : k < m.length
    · rw [List.getElem?_append_left hk] at ha
      rw [List.getElem?_append_left (by rw [← hS.len]; exact hk)] at hc'
      exact (hS.cell k a c' ha hc').mono (GLe.refl G) (List.prefix_append m [p]) (fun u h => fr a u h) fun n => n
    · have hk' : k = m.length := by
        have := (List.getElem?_eq_some_iff.mp ha).1
        rw [List.length_append, List.length_singleton] at this
        omega
      subst hk'
      rw [List.getElem?_append_right (Nat.le_refl _)] at ha
      rw [hS.len, List.getElem?_append_right (Nat.le_refl _)] at hc'
      simp at ha hc'
      subst ha hc'
      exact hc
theorem pre_self {k : Nat} {a : Addr} (h : m <+: m') (hl : k < m.length) (e : m'[k]? = some a) : m[k]? = some a := by
  obtain ⟨t, rfl⟩ := h
  rw [List.getElem?_append_left hl] at e
  exact e
/-- a live cell is written -/
theorem RS0.write {k : Nat} {a : Addr} {o : HO} {c : Cell} (hS : RS0 K P G m H st) (ha : m[k]? = some a) (hg : G a = none) (hc : CellOk K P G m (upd H a o) a c) : RS0 K P G m (upd H a o) (st.set k c) ∧ Ext G m H G m (upd H a o) := by
  have hin := List.mem_of_getElem? ha
  have ext : Ext G m H G m (upd H a o) := ⟨GLe.refl G, List.prefix_refl m, fun _ h => .inl h, fun b u h hm => by
    rw [upd_ne (show b ≠ a from fun z => hm (by rw [z]; exact hin))]; exact h, fun b h => by
    by_cases hb : b = a
    · subst hb; rw [upd_same]; simp
    · rw [upd_ne hb]; exact h, fun _ h => .inl h⟩
  refine ⟨⟨fun b u h => ?_, by rw [List.length_set]; exact hS.len, hS.nd, fun b hb => ext.th b (hS.inH b hb), fun j b c' hb hc' => ?_⟩, ext⟩
  · rw [upd_ne (ne_of_none h hg)]; exact hS.sub b u h
  · by_cases hj : j = k
    · subst hj
      rw [ha] at hb; cases hb
      have hl : j < st.length := by rw [← hS.len]; exact (List.getElem?_eq_some_iff.mp ha).1
      rw [List.getElem?_set_self hl] at hc'
      cases hc'
      exact hc
    · rw [List.getElem?_set_ne (Ne.symm hj)] at hc'
      have hne : b ≠ a := fun z => by
        subst z
        obtain ⟨h1, e1⟩ := List.getElem?_eq_some_iff.mp ha
        obtain ⟨h2, e2⟩ := List.getElem?_eq_some_iff.mp hb
        exact hj ((List.getElem_inj hS.nd).mp (e2.trans e1.symm))
      exact (hS.cell j b c' hb hc').mono (GLe.refl G) (List.prefix_refl m) (fun u h => by rw [upd_ne hne]; exact h) fun n => n
/-- a live cell is frozen -/
theorem RS0.freeze {k : Nat} {a : Addr} {o : HO} {d : D} (hS : RS0 K P G m H st) (ha : m[k]? = some a) (hg : G a = none) (ho : H a = some o) (hd : RepD K (upd G a o) (.ref a) d) : RS0 K P (upd G a o) m H (st.set k (.frz d)) ∧ Ext G m H (upd G a o) m H := by
  have g : GLe G (upd G a o) := fun b u h => by rw [upd_ne (ne_of_none h hg)]; exact h
  have ext : Ext G m H (upd G a o) m H := .same g (fun _ _ h => h) (gn_upd (.inl (List.mem_of_getElem? ha)))
  refine ⟨⟨fun b u h => ?_, by rw [List.length_set]; exact hS.len, hS.nd, hS.inH, fun j b c' hb hc' => ?_⟩, ext⟩
  · by_cases hb : b = a
    · subst hb; rw [upd_same] at h; cases h; exact ho
    · rw [upd_ne hb] at h; exact hS.sub b u h
  · by_cases hj : j = k
    · subst hj
      rw [ha] at hb; cases hb
      have hl : j < st.length := by rw [← hS.len]; exact (List.getElem?_eq_some_iff.mp ha).1
      rw [List.getElem?_set_self hl] at hc'
      cases hc'
      exact hd
    · rw [List.getElem?_set_ne (Ne.symm hj)] at hc'
      have hne : b ≠ a := fun z => by
        subst z
        obtain ⟨h1, e1⟩ := List.getElem?_eq_some_iff.mp ha
        obtain ⟨h2, e2⟩ := List.getElem?_eq_some_iff.mp hb
        exact hj ((List.getElem_inj hS.nd).mp (e2.trans e1.symm))
      exact (hS.cell j b c' hb hc').mono g (List.prefix_refl m) (fun u h => h) fun n => by rw [upd_ne hne]; exact n
/-- a value becomes data -/
theorem RS0.toD {v : V} {w : W} {d : D} (hS : RS0 K P G m H st) (r : RepW K P G m v w) (e : asD st w = some d) :
    ∃ G', RS0 K P G' m H (frzW w d st) ∧ Ext G m H G' m H ∧ RepD K G' v d := by
  cases w with
  | d x => cases e; exact ⟨G, hS, .refl, r⟩
  | exc => cases e
  | c k =>
    obtain ⟨a, ha, rfl⟩ := r
    have e' : (match st[k]? with
      | some (.lst xs) => some (D.lst xs)
      | some (.dct kvs) => some (D.dct kvs)
      | some (.frz d) => some d
      | _ => none) = some d := e
    cases q : st[k]? with
    | none => rw [q] at e'; cases e'
    | some c =>
      rw [q] at e'
      have z := hS.cell k a c ha q
      cases c with
      | lst xs =>
        cases e'
        obtain ⟨n, vs, eh, rl⟩ := z
        have g : GLe G (upd G a (.lst vs)) := fun b o h => by rw [upd_ne (ne_of_none h n)]; exact h
        have hd : RepD K (upd G a (.lst vs)) (.ref a) (.lst xs) := .lst upd_same (rl.mono g)
        obtain ⟨s1, x1⟩ := hS.freeze ha n eh hd
        exact ⟨_, s1, x1, hd⟩
      | dct xs =>
        cases e'
        obtain ⟨n, vs, eh, rl⟩ := z
        have g : GLe G (upd G a (.dK vs)) := fun b o h => by rw [upd_ne (ne_of_none h n)]; exact h
        have hd : RepD K (upd G a (.dK vs)) (.ref a) (.dct xs) := .dct upd_same (rl.mono g)
        obtain ⟨s1, x1⟩ := hS.freeze ha n eh hd
        exact ⟨_, s1, x1, hd⟩
      | obj fs => cases e'
      | frz x =>
        cases e'
        have es : st.set k (.frz d) = st := by
          obtain ⟨hl, e2⟩ := List.getElem?_eq_some_iff.mp q
          rw [← e2]
          exact List.set_getElem_self hl
        exact ⟨G, by show RS0 K P G m H (st.set k (.frz d)); rw [es]; exact hS, .refl, z⟩
theorem RS0.toDs : ∀ {ws : List W} {vs : List V} {ds : List D} {G : Hp} {st st' : Store}, RS0 K P G m H st → RepWs K P G m vs ws → toDs ws st = .ok ds st' →
    ∃ G', RS0 K P G' m H st' ∧ Ext G m H G' m H ∧ RepL K G' vs ds
  | [], _, _, G, st, st', hS, .nil, e => by
    cases e
    exact ⟨G, hS, .refl, .nil⟩
  | w :: ws, _, ds, G, st, st', hS, .cons r rs, e => by
    have e' : (Py.toD w st).bind (fun d st1 => (Py.toDs ws st1).bind fun ds st2 => .ok (d :: ds) st2) = .ok ds st' := e
    cases q : asD st w with
    | none => simp only [Py.toD, q, Res.bind_stuck, reduceCtorEq] at e'
    | some d =>
      simp only [Py.toD, q, Res.bind_ok] at e'
      obtain ⟨G1, s1, x1, r1⟩ := hS.toD r q
      cases q2 : Py.toDs ws (frzW w d st) with
      | err c s => rw [q2] at e'; cases e'
      | stuck => rw [q2] at e'; cases e'
      | ok ds2 st2 =>
        rw [q2] at e'
        cases e'
        obtain ⟨G2, s2, x2, r2⟩ := RS0.toDs s1 (rs.mono x1.g x1.pre) q2
        exact ⟨G2, s2, x1.trans x2, .cons (r1.mono x2.g) r2⟩
end
end Py

/-! One rule a construct: expressions. -/
namespace Py
open PySem L2

abbrev SE (X : Cx) (P : Pm) (Wx : WX) (e : Expr) (f : M W) : Prop := PE X e (rE X.K P Wx f)
abbrev ST (X : Cx) (P : Pm) (Wx : WX) (e : Expr) (f : M Bool) : Prop := PT X e (rT X.K P Wx f)
abbrev SA (X : Cx) (P : Pm) (Wx : WX) (es : List Expr) (f : M (List W)) : Prop := PA X es (rA X.K P Wx f)
abbrev SO (X : Cx) (P : Pm) (Wx : WX) (e : Option Expr) (f : M (Option Int)) : Prop := PO X e (rO X.K P Wx f)

theorem conv {X : Cx} {e : Expr} {t t' : TE} (h : PE X e t) (c : ∀ σ H Q, t' σ H Q → t σ H Q) : PE X e t' := ⟨fun pins s σ H Q I q => h.run pins s σ H Q I (c σ H Q q)⟩
theorem convT {X : Cx} {e : Expr} {t t' : TT} (h : PT X e t) (c : ∀ σ H Q, t' σ H Q → t σ H Q) : PT X e t' := ⟨fun pins s σ H Q I q => h.run pins s σ H Q I (c σ H Q q)⟩
theorem convA {X : Cx} {e : List Expr} {t t' : TA} (h : PA X e t) (c : ∀ σ H Q, t' σ H Q → t σ H Q) : PA X e t' := ⟨fun pos pins s σ H Q I q => h.run pos pins s σ H Q I (c σ H Q q)⟩
theorem convO {X : Cx} {e : Option Expr} {t t' : TO} (h : PO X e t) (c : ∀ σ H Q, t' σ H Q → t σ H Q) : PO X e t' := ⟨fun pins s σ H Q I q => h.run pins s σ H Q I (c σ H Q q)⟩
theorem opOr {X : Cx} {f : Value → Value → Sem Value} {r r' : R2} (h : OpR X f r) (h' : OpR X f r') : OpR X f (fun x y H Q => r x y H Q ∨ r' x y H Q) := fun pins s σ H x y v u Q I rx ry q =>
  q.elim (h pins s σ H x y v u Q I rx ry) (h' pins s σ H x y v u Q I rx ry)
theorem callOr {X : Cx} {f : Value} {r r' : List V → Hp → VK → Prop} (h : CallR X f r) (h' : CallR X f r') : CallR X f (fun xs H Q => r xs H Q ∨ r' xs H Q) := fun pins s σ H xs us Q I rx q =>
  q.elim (h pins s σ H xs us Q I rx) (h' pins s σ H xs us Q I rx)

section
variable {K : PySem.W.Frag} {P : Pm} {G : Hp} {m : List Addr} {H : Hp} {st : Store} {Q : VK} {E : Exc → Hp → Prop}
/-! ### results -/
theorem out_ok {v : V} {w : W} (h : OutG K P G m H (RepW K P) (.ok w st) Q E) (hS : RS0 K P G m H st) (r : RepW K P G m v w) : Q v H := h G m H v .refl hS r
theorem out_newL {own : Bool} {xs : List D} {vs : List V} (h : OutG K P G m H (RepW K P) (newL own xs st) Q E) (hS : RS0 K P G m H st) (r : RepL K G vs xs) : vs.length ≤ sizeLine ∧ ∀ p, H p = none → Q (.ref p) (upd H p (.lst vs)) := by
  unfold newL at h
  by_cases hz : xs.length ≤ sizeLine
  · rw [if_pos hz] at h
    refine ⟨by rw [r.length]; exact hz, fun p hp => ?_⟩
    by_cases ho : own = true
    · rw [if_pos ho] at h
      have hc : CellOk K P G (m ++ [p]) (upd H p (.lst vs)) p (.lst xs) := ⟨hS.freshG hp, vs, upd_same, r⟩
      obtain ⟨s1, x1⟩ := hS.newC hp hc
      exact h G (m ++ [p]) _ (.ref p) x1 s1 ⟨p, by rw [← hS.len, List.getElem?_append_right (Nat.le_refl _)]; simp, rfl⟩
    · rw [if_neg ho] at h
      obtain ⟨s1, x1⟩ := hS.newD (o := .lst vs) hp
      exact h _ m _ (.ref p) x1 s1 (.lst upd_same (r.mono x1.g))
  · rw [if_neg hz] at h
    exact h.elim
theorem out_newT {xs : List D} {vs : List V} (h : OutG K P G m H (RepW K P) (newT xs st) Q E) (hS : RS0 K P G m H st) (r : RepL K G vs xs) : vs.length ≤ sizeLine ∧ ∀ p, H p = none → Q (.ref p) (upd H p (.tup vs)) := by
  unfold newT at h
  by_cases hz : xs.length ≤ sizeLine
  · rw [if_pos hz] at h
    refine ⟨by rw [r.length]; exact hz, fun p hp => ?_⟩
    obtain ⟨s1, x1⟩ := hS.newD (o := .tup vs) hp
    exact h _ m _ (.ref p) x1 s1 (.tup (SqT.of upd_same) (r.mono x1.g))
  · rw [if_neg hz] at h
    exact h.elim
theorem out_sameT {xs : List D} {v : V} (h : OutG K P G m H (RepW K P) (newT xs st) Q E) (hS : RS0 K P G m H st) (r : RepD K G v (.tup xs)) : Q v H := by
  unfold newT at h
  by_cases hz : xs.length ≤ sizeLine
  · rw [if_pos hz] at h
    exact h G m H v .refl hS r
  · rw [if_neg hz] at h
    exact h.elim
theorem out_newDc {own : Bool} {xs : List (Str × D)} {vs : List (Key × V)} (h : OutG K P G m H (RepW K P) (newDc own xs st) Q E) (hS : RS0 K P G m H st) (r : RepK K G vs xs) : ∀ p, H p = none → Q (.ref p) (upd H p (.dK vs)) := fun p hp => by
  unfold newDc at h
  by_cases ho : own = true
  · rw [if_pos ho] at h
    have hc : CellOk K P G (m ++ [p]) (upd H p (.dK vs)) p (.dct xs) := ⟨hS.freshG hp, vs, upd_same, r⟩
    obtain ⟨s1, x1⟩ := hS.newC hp hc
    exact h G (m ++ [p]) _ (.ref p) x1 s1 ⟨p, by rw [← hS.len, List.getElem?_append_right (Nat.le_refl _)]; simp, rfl⟩
  · rw [if_neg ho] at h
    obtain ⟨s1, x1⟩ := hS.newD (o := .dK vs) hp
    exact h _ m _ (.ref p) x1 s1 (.dct upd_same (r.mono x1.g))
/-- heap objects that no value speaks of -/
theorem RS0.grow {p : Addr} {o : HO} (hS : RS0 K P G m H st) (hp : H p = none) : RS0 K P G m (upd H p o) st ∧ Ext G m H G m (upd H p o) := by
  have fr : ∀ b u, H b = some u → (upd H p o) b = some u := fun b u h => by rw [upd_ne (ne_of_none h hp)]; exact h
  have ext : Ext G m H G m (upd H p o) := .same (GLe.refl G) fr fun _ h => .inl h
  exact ⟨⟨fun b u h => fr b u (hS.sub b u h), hS.len, hS.nd, fun a ha => ext.th a (hS.inH a ha), fun k a c ha hc => (hS.cell k a c ha hc).mono (GLe.refl G) (List.prefix_refl m) (fun u h => fr a u h) fun n => n⟩, ext⟩

/-- what an operation by values gives -/
def BinOk (K : PySem.W.Frag) (P : Pm) (g : W → W → Store → Res W) (r : R2) : Prop :=
  ∀ {G : Hp} {m : List Addr} {H : Hp} {st : Store} {x y : V} {a b : W} {Q : VK} {E : Exc → Hp → Prop}, RS0 K P G m H st → RepW K P G m x a → RepW K P G m y b → OutG K P G m H (RepW K P) (g a b st) Q E → r x y H Q
def UnOk (K : PySem.W.Frag) (P : Pm) (g : W → Store → Res W) (r : V → Hp → VK → Prop) : Prop :=
  ∀ {G : Hp} {m : List Addr} {H : Hp} {st : Store} {x : V} {a : W} {Q : VK} {E : Exc → Hp → Prop}, RS0 K P G m H st → RepW K P G m x a → OutG K P G m H (RepW K P) (g a st) Q E → r x H Q
def CallOk (K : PySem.W.Frag) (P : Pm) (g : List W → Store → Res W) (r : List V → Hp → VK → Prop) : Prop :=
  ∀ {G : Hp} {m : List Addr} {H : Hp} {st : Store} {xs : List V} {as : List W} {Q : VK} {E : Exc → Hp → Prop}, RS0 K P G m H st → RepWs K P G m xs as → OutG K P G m H (RepW K P) (g as st) Q E → r xs H Q
end

section
variable {X : Cx} {P : Pm} {Wx : WX} {a b c e : Expr} {es : List Expr} {fa fb fc : M W} {fs : M (List W)} {pos : Pos} {K : PySem.W.Frag}
/-! ### names, constants -/
theorem se_var (i : Nat) {x : Str} (hN : X.N[i]? = some x := by rfl) (hv : Vis X.env.scope x := by first | exact Or.inl rfl | exact Or.inr (Or.inl rfl) | exact Or.inr (Or.inr rfl)) (hd : (x == ("__debug__" : Str)) = false := by decide +kernel)
    (hcd : (x == ("__classdict__" : Str)) = false := by decide +kernel) : SE X P Wx (.Name x pos) (varM i) :=
  conv (pe_var hN hv hd hcd) fun σ H Q ⟨G, m, env, st, hE, hS, ho⟩ => by
    have ho' : OutG X.K P G m H (RepW X.K P) (match env[i]? with
      | some (some w) => .ok w st
      | _ => .stuck) Q (fun c H' => Wx (.ref (P.EC c)) none σ H') := ho
    cases q : env[i]? with
    | none => rw [q] at ho'; exact ho'.elim
    | some o =>
      cases o with
      | none => rw [q] at ho'; exact ho'.elim
      | some w =>
        rw [q] at ho'
        obtain ⟨v, hv, r⟩ := hE.get i w q
        exact ⟨v, hv, out_ok ho' hS r⟩
theorem se_con {v : V} {d : D} (h : PE X e (tC v)) (r : ∀ G, RepD X.K G v d) : SE X P Wx e (conM d) :=
  conv h fun σ H Q ⟨G, m, env, st, hE, hS, ho⟩ => out_ok (w := .d d) ho hS (r G)
theorem se_int {i : Int} {j : Nat} : SE X P Wx (.Constant (.int i) j pos) (conM (.int i)) := se_con pe_int fun _ => .int i
theorem se_bl {b : Bool} {j : Nat} : SE X P Wx (.Constant (.bool b) j pos) (conM (.bl b)) := se_con pe_bl fun _ => .bl b
theorem se_non {j : Nat} : SE X P Wx (.Constant .none j pos) (conM .non) := se_con pe_non fun _ => .non
theorem se_str {x : Str} {j : Nat} : SE X P Wx (.Constant (.str x) j pos) (conM (.str x)) := se_con pe_str fun _ => .str x
/-! ### arguments -/
theorem sa_nil : SA X P Wx [] nilA := convA pa_nil fun σ H Q ⟨G, m, env, st, hE, hS, ho⟩ => ho G m H [] .refl hS .nil
theorem sa_cons (ha : SE X P Wx a fa) (hr : SA X P Wx es fs) (hs : starEach (a :: es) X.env = (false, eval a X.env) :: starEach es X.env := by rfl) : SA X P Wx (a :: es) (consA fa fs) :=
  convA (pa_cons ha hr hs) fun σ H Q ⟨G, m, env, st, hE, hS, ho⟩ =>
    goG hE hS ho fun G1 m1 H1 v w st1 x1 e1 s1 r1 o1 => goG e1 s1 o1 fun G2 m2 H2 vs ws st2 x2 e2 s2 r2 o2 =>
      o2 G2 m2 H2 (v :: vs) .refl s2 (.cons (r1.mono x2.g x2.pre) r2)

/-! ### operators -/
theorem se_bin {op : Operator} {r : R2} {g : W → W → Store → Res W} (ho : OpR X (binaryOp op) r) (hr : BinOk X.K P g r) (ha : SE X P Wx a fa) (hb : SE X P Wx b fb) : SE X P Wx (.BinOp a op b pos) (binM g fa fb) :=
  conv (pe_op ho ha hb) fun σ H Q ⟨G, m, env, st, hE, hS, ho⟩ =>
    goG hE hS ho fun G1 m1 H1 v w st1 x1 e1 s1 r1 o1 => goG e1 s1 o1 fun G2 m2 H2 v2 w2 st2 x2 e2 s2 r2 o2 => hr s2 (r1.mono x2.g x2.pre) r2 o2
theorem se_un {op : UnaryOp} {r : V → Hp → VK → Prop} {g : W → Store → Res W} (ho : UnR X (unaryOp op) r) (hr : UnOk X.K P g r) (ha : SE X P Wx a fa) : SE X P Wx (.UnaryOp op a pos) (unM g fa) :=
  conv (pe_un ho ha) fun σ H Q ⟨G, m, env, st, hE, hS, ho⟩ => goG hE hS ho fun G1 m1 H1 v w st1 x1 e1 s1 r1 o1 => hr s1 r1 o1
theorem se_cmp {op : CmpOp} {r : R2} {g : W → W → Store → Res W} (ho : OpR X (compareOp op) r) (hr : BinOk X.K P g r) (ha : SE X P Wx a fa) (hb : SE X P Wx b fb) (hm : behindInMarks op b = false := by first | exact nomark _ | rfl | with_unfolding_all rfl) : SE X P Wx (.Compare a [op] [b] pos) (binM g fa fb) :=
  conv (pe_cmpR ho ha hb hm) fun σ H Q ⟨G, m, env, st, hE, hS, ho⟩ =>
    goG hE hS ho fun G1 m1 H1 v w st1 x1 e1 s1 r1 o1 => goG e1 s1 o1 fun G2 m2 H2 v2 w2 st2 x2 e2 s2 r2 o2 => hr s2 (r1.mono x2.g x2.pre) r2 o2
theorem out_bl {α β : Type} {G : Hp} {m : List Addr} {H : Hp} {v : V} {w : W} (r1 : RepW K P G m v w) {k : Bool → Res α} {Rp : Hp → List Addr → β → α → Prop} {Q : β → Hp → Prop} {E : Exc → Hp → Prop}
    (o1 : OutG K P G m H Rp (onBl w k) Q E) : ∃ c, v = .bl c ∧ OutG K P G m H Rp (k c) Q E := by
  cases w with
  | d x =>
    cases x with
    | bl b => cases r1; exact ⟨b, rfl, o1⟩
    | _ => exact o1.elim
  | c k => exact o1.elim
  | exc => exact o1.elim
theorem out_tv {G : Hp} {m : List Addr} {H : Hp} {st : Store} {v : V} {w : W} {Q : Bool → Hp → Prop} {E : Exc → Hp → Prop} (s1 : RS0 K P G m H st) (r1 : RepW K P G m v w)
    (o1 : OutG K P G m H (fun _ _ b c => b = c) (onBl w fun b => .ok b st) Q E) : ∃ k, v = .bl k ∧ Q k H := by
  obtain ⟨c, e, o2⟩ := out_bl r1 o1
  exact ⟨c, e, o2 G m H c .refl s1 rfl⟩
theorem st_cmp {op : CmpOp} {r : R2} {g : W → W → Store → Res W} (ho : OpR X (compareOp op) r) (hr : BinOk X.K P g r) (ha : SE X P Wx a fa) (hb : SE X P Wx b fb) (hm : behindInMarks op b = false := by first | exact nomark _ | rfl | with_unfolding_all rfl) : ST X P Wx (.Compare a [op] [b] pos) (tvM (binM g fa fb)) := by
  refine convT (pt_cmpR ho ha hb hm) fun σ H Q ⟨G, m, env, st, hE, hS, ho⟩ => ?_
  have ho' : OutG X.K P G m H (fun _ _ b c => b = c) ((fa env st).bind fun x s1 => ((fb env s1).bind fun y s2 => g x y s2).bind fun x s1 => onBl x fun b => .ok b s1) Q (fun c H' => Wx (.ref (P.EC c)) none σ H') := by
    have e : tvM (binM g fa fb) env st = ((fa env st).bind fun x s1 => ((fb env s1).bind fun y s2 => g x y s2).bind fun x s1 => onBl x fun b => .ok b s1) := by
      unfold tvM binM
      cases fa env st <;> rfl
    rw [← e]; exact ho
  refine goG hE hS ho' fun G1 m1 H1 v w st1 x1 e1 s1 r1 o1 => ?_
  have o1' : OutG X.K P G1 m1 H1 (fun _ _ b c => b = c) ((fb env st1).bind fun y s2 => (g w y s2).bind fun x s1 => onBl x fun b => .ok b s1) Q (fun c H' => Wx (.ref (P.EC c)) none σ H') := by
    have e : (((fb env st1).bind fun y s2 => g w y s2).bind fun x s1 => onBl x fun b => .ok b s1) = ((fb env st1).bind fun y s2 => (g w y s2).bind fun x s1 => (onBl x fun b => (.ok b s1 : Res Bool))) := by cases fb env st1 <;> rfl
    rw [← e]; exact o1
  refine goG e1 s1 o1' fun G2 m2 H2 v2 w2 st2 x2 e2 s2 r2 o2 => ?_
  refine hr (E := fun c H' => Wx (.ref (P.EC c)) none σ H') s2 (r1.mono x2.g x2.pre) r2 ?_
  cases q : g w w2 st2 with
  | ok w3 st3 => rw [q] at o2; exact fun G3 m3 H3 v3 x3 s3 r3 => out_tv s3 r3 (OutG.shift o2 x3)
  | err c st3 => rw [q] at o2; exact o2
  | stuck => rw [q] at o2; exact o2

def rAddAll (K : PySem.W.Frag) : R2 := fun x y H Q => ((rI0 fun i j => .int (i + j)) x y H Q ∨ (∃ i j, x = .str i ∧ y = .str j ∧ i.length + j.length ≤ sizeLine ∧ Q (.str (i ++ j)) H)) ∨ rCat x y H Q ∨ rCatA K x y H Q
theorem op_addAll : OpR X (binaryOp .Add) (rAddAll X.K) := opOr (opOr op_add op_add_str) (opOr op_cat op_catA)
theorem bo_add {own : Bool} : BinOk K P (addW own) (rAddAll K) := by
  intro G m H st x y a b Q E hS ra rb ho
  unfold addW at ho
  split at ho
  · rename_i i j e1 e2
    rw [view_int hS ra e1, view_int hS rb e2]
    exact .inl (.inl ⟨i, j, rfl, rfl, out_ok ho hS (show RepD K G _ _ from .int _)⟩)
  · rename_i i j e1 e2
    rw [view_str hS ra e1, view_str hS rb e2]
    split at ho
    · exact .inl (.inr ⟨i, j, rfl, rfl, by assumption, out_ok ho hS (show RepD K G _ _ from .str _)⟩)
    · exact ho.elim
  · rename_i xs ys e1 e2
    obtain ⟨p, vs, rfl, hp, r1⟩ := view_lst hS ra e1
    obtain ⟨q, us, rfl, hq, r2⟩ := view_lst hS rb e2
    obtain ⟨hz, k⟩ := out_newL ho hS (r1.append r2)
    rw [List.length_append] at hz
    exact .inr (.inl ⟨p, q, vs, us, rfl, rfl, hp, hq, hz, k⟩)
  · rename_i xs ys e1 e2
    obtain ⟨p, vs, rfl, hp, r1⟩ := view_tup hS ra e1
    obtain ⟨q, us, rfl, hq, r2⟩ := view_tup hS rb e2
    obtain ⟨hz, k⟩ := out_newT ho hS (r1.append r2)
    rw [List.length_append] at hz
    refine .inr (.inr ⟨p, q, vs, us, rfl, rfl, hS.sqT hp, hS.sqT hq, hz, fun hv => ?_, fun _ hu => ?_, fun _ _ => k⟩)
    · subst hv
      cases r1
      exact out_sameT ho hS (.tup hq r2)
    · subst hu
      cases r2
      rw [List.append_nil] at ho
      exact out_sameT ho hS (.tup hp r1)
  · exact ho.elim
theorem se_add (own : Bool) (ha : SE X P Wx a fa) (hb : SE X P Wx b fb) : SE X P Wx (.BinOp a .Add b pos) (binM (addW own) fa fb) := se_bin op_addAll bo_add ha hb
theorem bo_sub : BinOk K P subW (rI0 fun i j => .int (i - j)) := by
  intro G m H st x y a b Q E hS ra rb ho
  unfold subW at ho
  split at ho
  · rename_i i j e1 e2
    rw [view_int hS ra e1, view_int hS rb e2]
    exact ⟨i, j, rfl, rfl, out_ok ho hS (show RepD K G _ _ from .int _)⟩
  · exact ho.elim
theorem se_sub (ha : SE X P Wx a fa) (hb : SE X P Wx b fb) : SE X P Wx (.BinOp a .Sub b pos) (binM subW fa fb) := se_bin op_sub bo_sub ha hb
theorem bo_mod : BinOk K P modW (rI (fun _ j => 0 < j) fun i j => .int (i % j)) := by
  intro G m H st x y a b Q E hS ra rb ho
  unfold modW at ho
  split at ho
  · rename_i i j e1 e2
    rw [view_int hS ra e1, view_int hS rb e2]
    split at ho
    · exact ⟨i, j, rfl, rfl, by assumption, out_ok ho hS (show RepD K G _ _ from .int _)⟩
    · exact ho.elim
  · exact ho.elim
theorem se_mod (ha : SE X P Wx a fa) (hb : SE X P Wx b fb) : SE X P Wx (.BinOp a .Mod b pos) (binM modW fa fb) := se_bin op_mod bo_mod ha hb
theorem bo_fdiv : BinOk K P fdivW (rI CDiv fun i j => .int (i / j)) := by
  intro G m H st x y a b Q E hS ra rb ho
  unfold fdivW at ho
  split at ho
  · rename_i i j e1 e2
    rw [view_int hS ra e1, view_int hS rb e2]
    split at ho
    · rename_i hk
      exact ⟨i, j, rfl, rfl, (fdvOk_iff _).mp hk, out_ok ho hS (show RepD K G _ _ from .int _)⟩
    · exact ho.elim
  · exact ho.elim
theorem se_fdiv (ha : SE X P Wx a fa) (hb : SE X P Wx b fb) : SE X P Wx (.BinOp a .FloorDiv b pos) (binM fdivW fa fb) := se_bin op_fdiv bo_fdiv ha hb
end
end Py

namespace Py
open PySem L2 PySem.Spec PyProof.Rows
/-! ### tuple * 1 -/
theorem tuple_mul1 (l : Addr) (items : Array Value) (n : Nat) (dd : Option Addr) (sl : Array (Option Value)) (u : Tok) :
    Meets (Builtin.«tuple.__mul__» ⟨[.ref l, .int 1 u], []⟩) (fun _ R s => s.heap.get? l = some { cls := .type "tuple", dict := dd, data := .seq items n, slots := sl } ∧ R (.ok (.ret (Value.ref l))) { s with heap := s.heap, toks := s.toks }) :=
  .of_wp fun prog w A R s h => by
    obtain ⟨hp, g, d, tk, os⟩ := s
    obtain ⟨hl, h⟩ := h
    have f1 := AutoSeq1.idx_int
    have f2 := AutoSeq1.sub_tuple_tuple
    wp_walk using wpAny_loadPart' hl
    exact ⟨_, rfl, h⟩
theorem op_rep1T {X : Cx} : OpR X (binaryOp .Mult) (fun x y H Q => ∃ l xs, x = .ref l ∧ y = .int 1 ∧ SqT X.K H l xs ∧ Q (.ref l) H) := by
  intro pins s σ H x y v u Q I rx ry h
  obtain ⟨l, xs, rfl, rfl, hT, q⟩ := h
  cases rx
  obtain ⟨t, rfl⟩ := ry
  obtain ⟨its, r, ⟨⟨cls, dd, data, sl⟩, ho, hc, n, hd⟩, hs⟩ := I.tuple hT
  simp only at hc hd
  subst hc hd
  refine wpAny_binaryOp_repeat_ref (T := "tuple") (U := "int") (by decide) ⟨_, ho, rfl⟩ (fun s' => typeIs_int s' 1 t) noFill_tuple_mul F.fills_int_mul F.slot_int_rmul repeat_tuple F.slot_int_index.lookup
    (call_meets F.slot_int_rmul (typeIs_int s 1 t) F.entry_int_rmul (F.args_int_rmul_2 _ _) (int_rmul_tuple 1 t l its.toArray n dd sl)
      ⟨ho, rfl, ⟨_, ho, rfl⟩, call_meets F.slot_tuple_mul ⟨_, ho, rfl⟩ F.entry_tuple_mul (F.args_tuple_mul_2 _ _) (tuple_mul1 l its.toArray n dd sl t) ⟨ho, ?_⟩⟩)
  exact ⟨.ref l, H, I.tok _, rfl, q⟩
section
variable {X : Cx} {P : Pm} {Wx : WX} {a b c e : Expr} {es : List Expr} {fa fb fc : M W} {fs : M (List W)} {pos : Pos} {K : PySem.W.Frag}
def rMulAll (K : PySem.W.Frag) : R2 := fun x y H Q => ((rI CMul fun i j => .int (i * j)) x y H Q ∨ rRep x y H Q) ∨ (rRepT K x y H Q ∨ ∃ l xs, x = .ref l ∧ y = .int 1 ∧ SqT K H l xs ∧ Q (.ref l) H)
theorem op_mulAll : OpR X (binaryOp .Mult) (rMulAll X.K) := opOr (opOr op_mul op_rep) (opOr op_repT op_rep1T)
theorem bo_mul {own : Bool} : BinOk K P (mulW own) (rMulAll K) := by
  intro G m H st x y a b Q E hS ra rb ho
  unfold mulW at ho
  split at ho
  · rename_i i j e1 e2
    rw [view_int hS ra e1, view_int hS rb e2]
    split at ho
    · rename_i hk
      exact .inl (.inl ⟨i, j, rfl, rfl, (show (-(2 ^ 64) < i ∧ i < 2 ^ 64) ∨ (-(2 ^ 64) < j ∧ j < 2 ^ 64) from (mulOk_iff i j).mp hk), out_ok ho hS (show RepD K G _ _ from .int _)⟩)
    · exact ho.elim
  · rename_i xs k e1 e2
    obtain ⟨p, vs, rfl, hp, r1⟩ := view_lst hS ra e1
    rw [view_int hS rb e2]
    split at ho
    · rename_i hk
      replace hk := (repOk_iff _).mp hk
      obtain ⟨hz, q⟩ := out_newL ho hS (r1.reps k.toNat)
      refine .inl (.inr ⟨p, k, vs, rfl, rfl, hp, hk.1, hk.2, ?_, q⟩)
      rw [PyProof.Rows.lm_len_rep_flat] at hz
      rw [Nat.mul_comm]; exact hz
    · exact ho.elim
  · rename_i xs k e1 e2
    obtain ⟨p, vs, rfl, hp, r1⟩ := view_tup hS ra e1
    rw [view_int hS rb e2]
    split at ho
    · rename_i hk
      obtain ⟨k12, k3⟩ := hk
      obtain ⟨k1, k2⟩ := (tupOk_iff _).mp k12
      have hl := r1.length
      by_cases k0 : k = 1
      · subst k0
        refine .inr (.inr ⟨p, vs, rfl, rfl, hS.sqT hp, out_sameT ho hS ?_⟩)
        have e : reps 1 xs = xs := by simp [reps]
        rw [e]
        exact .tup hp r1
      · obtain ⟨hz, q⟩ := out_newT ho hS (r1.reps k.toNat)
        refine .inr (.inl ⟨p, k, vs, rfl, rfl, hS.sqT hp, ?_, by omega, k2, by omega, q⟩)
        intro z
        rw [z] at hl
        rw [k3] at hl
        cases hl
    · exact ho.elim
  · exact ho.elim
theorem se_mul (own : Bool) (ha : SE X P Wx a fa) (hb : SE X P Wx b fb) : SE X P Wx (.BinOp a .Mult b pos) (binM (mulW own) fa fb) := se_bin op_mulAll bo_mul ha hb
theorem uo_neg : UnOk K P negW (rU fun i => .int (-i)) := by
  intro G m H st x a Q E hS ra ho
  unfold negW at ho
  split at ho
  · rename_i i e1
    rw [view_int hS ra e1]
    exact ⟨i, rfl, out_ok ho hS (show RepD K G _ _ from .int _)⟩
  · exact ho.elim
theorem se_neg (ha : SE X P Wx a fa) : SE X P Wx (.UnaryOp .USub a pos) (unM negW fa) := se_un un_neg uo_neg ha

/-! ### comparisons of ints -/
theorem bo_cmp {p : Int → Int → Bool} : BinOk K P (cmpW p) (rI0 fun i j => .bl (p i j)) := by
  intro G m H st x y a b Q E hS ra rb ho
  unfold cmpW at ho
  split at ho
  · rename_i i j e1 e2
    rw [view_int hS ra e1, view_int hS rb e2]
    exact ⟨i, j, rfl, rfl, out_ok ho hS (show RepD K G _ _ from .bl _)⟩
  · exact ho.elim
abbrev ltW := cmpW fun i j => decide (i < j)
abbrev leW := cmpW fun i j => decide (i ≤ j)
abbrev gtW := cmpW fun i j => decide (j < i)
/-! ### == -/
mutual
theorem dp_of {G H : Hp} (hg : ∀ a o, G a = some o → H a = some o) : ∀ {v : V} {d : D}, RepD K G v d → d.fine = true → Dp K H v (toPy d)
  | _, _, .non, _ => .non
  | _, _, .bl b, _ => .bl b
  | _, _, .int b, _ => .int b
  | _, _, .str b, _ => .str b
  | _, _, .tup h l, f => .tup (Evl.ex_t hg h) (dp_ofL hg l f)
  | _, _, .lst h l, f => .lst (SqL.of (hg _ _ h)) (dp_ofL hg l f)
  | _, _, .dct _ _, f => by cases f
  | _, _, .scr _, f => by cases f
theorem dp_ofL {G H : Hp} (hg : ∀ a o, G a = some o → H a = some o) : ∀ {v : List V} {d : List D}, RepL K G v d → fineL d = true → DpAll K H v (toPyL d)
  | _, _, .nil, _ => .nil
  | _, _, .cons r l, f => by
    have f' := f
    simp only [fineL, Bool.and_eq_true] at f'
    exact .cons (dp_of hg r f'.1) (dp_ofL hg l f'.2)
end
mutual
theorem fine_lay : ∀ d : D, d.fine = true → (toPy d).canLay0 = true ∧ (toPy d).depth = d.dep
  | .non, _ => ⟨rfl, rfl⟩
  | .bl _, _ => ⟨rfl, rfl⟩
  | .int _, _ => ⟨rfl, rfl⟩
  | .str s, f => ⟨f, rfl⟩
  | .tup xs, f => by
    obtain ⟨h1, h2⟩ := fine_layL xs f
    exact ⟨h1, by simp only [toPy, PyData.depth, D.dep, h2]⟩
  | .lst xs, f => by
    obtain ⟨h1, h2⟩ := fine_layL xs f
    exact ⟨h1, by simp only [toPy, PyData.depth, D.dep, h2]⟩
  | .dct _, f => by cases f
  | .scr _, f => by cases f
theorem fine_layL : ∀ d : List D, fineL d = true → PyData.canLayAll0 (toPyL d) = true ∧ PyData.depthAll (toPyL d) = depL d
  | [], _ => ⟨rfl, rfl⟩
  | x :: xs, f => by
    simp only [fineL, Bool.and_eq_true] at f
    obtain ⟨h1, h2⟩ := fine_lay x f.1
    obtain ⟨h3, h4⟩ := fine_layL xs f.2
    exact ⟨by simp only [toPyL, PyData.canLayAll0, h1, h3, Bool.and_self], by simp only [toPyL, PyData.depthAll, depL, h2, h4]⟩
end
theorem shaped_of {d : D} (f : d.fine = true) (h : d.dep ≤ 64) : SeqAt.shaped (toPy d) = true := by
  obtain ⟨h1, h2⟩ := fine_lay d f
  unfold SeqAt.shaped
  rw [h1, h2, decide_eq_true h]
  rfl
mutual
theorem eqv_py : ∀ d e : D, d.fine = true → e.fine = true → PyData.eqv (toPy d) (toPy e) = d.eqv e
  | .tup xs, .tup ys, f, g => by simp only [toPy, PyData.eqv, D.eqv]; exact eqv_pyL xs ys f g
  | .lst xs, .lst ys, f, g => by simp only [toPy, PyData.eqv, D.eqv]; exact eqv_pyL xs ys f g
  | .dct _, _, f, _ => by cases f
  | .scr _, _, f, _ => by cases f
  | .non, e, _, g => by cases e <;> first | (cases g; done) | rfl
  | .bl _, e, _, g => by cases e <;> first | (cases g; done) | rfl
  | .int _, e, _, g => by cases e <;> first | (cases g; done) | rfl
  | .str _, e, _, g => by cases e <;> first | (cases g; done) | rfl
  | .tup _, .non, _, _ => rfl
  | .tup _, .bl _, _, _ => rfl
  | .tup _, .int _, _, _ => rfl
  | .tup _, .str _, _, _ => rfl
  | .tup _, .lst _, _, _ => rfl
  | .tup _, .dct _, _, g => by cases g
  | .tup _, .scr _, _, g => by cases g
  | .lst _, .non, _, _ => rfl
  | .lst _, .bl _, _, _ => rfl
  | .lst _, .int _, _, _ => rfl
  | .lst _, .str _, _, _ => rfl
  | .lst _, .tup _, _, _ => rfl
  | .lst _, .dct _, _, g => by cases g
  | .lst _, .scr _, _, g => by cases g
theorem eqv_pyL : ∀ d e : List D, fineL d = true → fineL e = true → PyData.eqvAll (toPyL d) (toPyL e) = eqvL d e
  | [], [], _, _ => rfl
  | [], _ :: _, _, _ => rfl
  | _ :: _, [], _, _ => rfl
  | x :: xs, y :: ys, f, g => by
    simp only [fineL, Bool.and_eq_true] at f g
    simp only [toPyL, PyData.eqvAll, eqvL, eqv_py x y f.1 g.1, eqv_pyL xs ys f.2 g.2]
end
end
end Py

namespace Py
open PySem L2 PySem.Spec PyProof.Rows
section
variable {X : Cx} {P : Pm} {Wx : WX} {a b c e : Expr} {es : List Expr} {fa fb fc : M W} {fs : M (List W)} {pos : Pos} {K : PySem.W.Frag}
/-! ### dicts compared -/
theorem hits_of {pins : List (Addr × Obj)} {σ : L2.St} {H : Hp} {s : Shared} {A : Around} (I : Inv X pins σ H s) {kb : List (Key × V)} {vb : List (Key × Value)} {kvb : List (Str × D)} (rb : RepK X.K H kb kvb) (Rb : KV kb vb)
    (fb : (kvb.all fun p => p.2.fine && decide (p.2.dep ≤ 50)) = true) (hu : A.units + 60 < cLine) :
    ∀ {ka : List (Key × V)} {kva : List (Str × D)}, RepK X.K H ka kva → ∀ {va : List (Key × Value)}, KV ka va → (kva.all fun p => p.2.fine && decide (p.2.dep ≤ 50)) = true →
      PySem.W.KeqHits A s vb va (kva.all (hitD kvb))
  | _, _, .nil, _, .nil, _ => .nil
  | _, _, .cons (k := k) (v := v) (d := d) (kvs := kvs) r l, _, .cons h t, f => by
    rename_i q qs
    obtain ⟨h1, h2⟩ := h
    obtain ⟨k', u⟩ := q
    have h1' : (Sum.inr k : Key) = k' := h1
    subst h1'
    rw [List.all_cons, Bool.and_eq_true, Bool.and_eq_true] at f
    have ih := hits_of I rb Rb fb hu l t f.2
    rw [List.all_cons]
    rcases rb.look (s := k) with ⟨e1, e2⟩ | ⟨d', v', e1, e2, r'⟩
    · have hn : valueAt vb (Sum.inr k) = none := RelO.none_of (by rw [← e2]; exact Rb.val _)
      have eh : hitD kvb (k, d) = false := by unfold hitD; simp only [e1]
      rw [eh, Bool.false_and]
      exact .miss hn
    · obtain ⟨y, hy, ry⟩ := RelO.some_of (by rw [← e2]; exact Rb.val (Sum.inr k))
      have hd : d'.fine = true ∧ d'.dep ≤ 50 := by
        have hm : (k, d') ∈ kvb := by
          clear Rb fb rb hy e2 ih
          induction kvb with
          | nil => cases e1
          | cons p ps ih =>
            have e1' : (if p.1 = k then some p.2 else look k ps) = some d' := e1
            by_cases hk : p.1 = k
            · rw [if_pos hk] at e1'
              cases e1'
              rw [← hk]
              exact List.mem_cons_self
            · rw [if_neg hk] at e1'
              exact List.mem_cons_of_mem _ (ih e1')
        have z := List.all_eq_true.mp fb _ hm
        simpa using z
      have f1 : d.fine = true ∧ d.dep ≤ 50 := by simpa using f.1
      obtain ⟨as, q1⟩ := Dp.reads I _ _ _ (dp_of (fun _ _ z => z) r f1.1) h2
      obtain ⟨bs, q2⟩ := Dp.reads I _ _ _ (dp_of (fun _ _ z => z) r' hd.1) ry
      obtain ⟨l1, p1⟩ := fine_lay d f1.1
      obtain ⟨l2, p2⟩ := fine_lay d' hd.1
      have eq := SeqAt.eqAt_reads (toPy d) (toPy d') A s u y as bs q1 q2 l1 l2 (by rw [p1, p2]; omega)
      rw [eqv_py d d' f1.1 hd.1] at eq
      have eh : hitD kvb (k, d) = d.eqv d' := by unfold hitD; simp only [e1]
      rw [eh]
      exact .hit hy eq ih
def rEqAll (K : PySem.W.Frag) (neg : Bool) : R2 := fun x y H Q => (∃ d e, Dp K H x d ∧ Dp K H y e ∧ SeqAt.shaped d = true ∧ SeqAt.shaped e = true ∧ Q (.bl (if neg then !PyData.eqv d e else PyData.eqv d e)) H) ∨
  ∃ a b ka kb kva kvb, x = .ref a ∧ y = .ref b ∧ H a = some (.dK ka) ∧ H b = some (.dK kb) ∧ RepK K H ka kva ∧ RepK K H kb kvb ∧ (kva.all fun p => p.2.fine && decide (p.2.dep ≤ 50)) = true ∧ (kvb.all fun p => p.2.fine && decide (p.2.dep ≤ 50)) = true ∧
    Q (.bl (if neg then !dctEqv kva kvb else dctEqv kva kvb)) H
theorem op_eqAll (hu : X.A.units + 64 < cLine) : OpR X (compareOp .Eq) (rEqAll X.K false) := by
  intro pins s σ H x y v u Q I rx ry h
  rcases h with h | ⟨a, b, ka, kb, kva, kvb, rfl, rfl, ea, eb, ra, rb, f1, f2, q⟩
  · exact op_eqD hu pins s σ H x y v u Q I rx ry h
  · obtain rfl : v = Value.ref a := rx
    obtain rfl : u = Value.ref b := ry
    obtain ⟨_, ya, va, Ra, da⟩ := (show ObjOk X.prog X.w H s.heap a (.dK ka) from I.hok a _ ea)
    obtain ⟨_, yb, vb, Rb, db⟩ := (show ObjOk X.prog X.w H s.heap b (.dK kb) from I.hok b _ eb)
    have l1 : va.length = kva.length := Ra.length.symm.trans ra.length
    have l2 : vb.length = kvb.length := Rb.length.symm.trans rb.length
    exact PySem.W.keq_eq (knd := mixKind X.prog X.w) ya yb da db (by omega) (fun _ => hits_of I rb Rb f2 (by show X.A.units + 1 + 60 < cLine; omega) ra Ra f1) (fin_bl I q (by unfold dctEqv; rw [l1, l2]; rfl))
theorem op_neAll (hu : X.A.units + 64 < cLine) : OpR X (compareOp .NotEq) (rEqAll X.K true) := by
  intro pins s σ H x y v u Q I rx ry h
  rcases h with h | ⟨a, b, ka, kb, kva, kvb, rfl, rfl, ea, eb, ra, rb, f1, f2, q⟩
  · exact op_neD hu pins s σ H x y v u Q I rx ry h
  · obtain rfl : v = Value.ref a := rx
    obtain rfl : u = Value.ref b := ry
    obtain ⟨_, ya, va, Ra, da⟩ := (show ObjOk X.prog X.w H s.heap a (.dK ka) from I.hok a _ ea)
    obtain ⟨_, yb, vb, Rb, db⟩ := (show ObjOk X.prog X.w H s.heap b (.dK kb) from I.hok b _ eb)
    have l1 : va.length = kva.length := Ra.length.symm.trans ra.length
    have l2 : vb.length = kvb.length := Rb.length.symm.trans rb.length
    exact PySem.W.keq_ne (knd := mixKind X.prog X.w) ya yb da db (by omega) (fun _ => hits_of I rb Rb f2 (by show X.A.units + 1 + 60 < cLine; omega) ra Ra f1) (fin_bl I q (by unfold dctEqv; rw [l1, l2]; rfl))
theorem bo_eq {neg : Bool} : BinOk K P (eqW neg) (rEqAll K neg) := by
  intro G m H st x y a b Q E hS ra rb ho
  unfold eqW at ho
  split at ho
  · rename_i d e e1 e2
    split at ho
    · rename_i r hr
      unfold eqD at hr
      split at hr
      · rename_i kva kvb
        split at hr
        · rename_i hf
          rw [Bool.and_eq_true] at hf
          obtain ⟨p, ka, rfl, hp, r1⟩ := view_dct hS ra e1
          obtain ⟨q, kb, rfl, hq, r2⟩ := view_dct hS rb e2
          cases hr
          exact .inr ⟨p, q, ka, kb, kva, kvb, rfl, rfl, hp, hq, r1.mono hS.sub, r2.mono hS.sub, hf.1, hf.2, out_ok ho hS (show RepD K G _ _ from .bl _)⟩
        · cases hr
      · split at hr
        · rename_i hf
          simp only [Bool.and_eq_true, decide_eq_true_eq] at hf
          obtain ⟨⟨⟨f1, f2⟩, f3⟩, f4⟩ := hf
          obtain ⟨G1, _, h1, r1⟩ := view hS ra e1
          obtain ⟨G2, _, h2, r2⟩ := view hS rb e2
          cases hr
          refine .inl ⟨toPy d, toPy e, dp_of h1 r1 f1, dp_of h2 r2 f3, shaped_of f1 (by omega), shaped_of f3 (by omega), ?_⟩
          rw [eqv_py d e f1 f3]
          exact out_ok ho hS (show RepD K G _ _ from .bl _)
        · cases hr
    · exact ho.elim
  · exact ho.elim
theorem se_eq (hu : X.A.units + 64 < cLine) (ha : SE X P Wx a fa) (hb : SE X P Wx b fb) : SE X P Wx (.Compare a [.Eq] [b] pos) (binM (eqW false) fa fb) := se_cmp (op_eqAll hu) bo_eq ha hb
theorem st_eq (hu : X.A.units + 64 < cLine) (ha : SE X P Wx a fa) (hb : SE X P Wx b fb) : ST X P Wx (.Compare a [.Eq] [b] pos) (tvM (binM (eqW false) fa fb)) := st_cmp (op_eqAll hu) bo_eq ha hb
theorem st_ne (hu : X.A.units + 64 < cLine) (ha : SE X P Wx a fa) (hb : SE X P Wx b fb) : ST X P Wx (.Compare a [.NotEq] [b] pos) (tvM (binM (eqW true) fa fb)) := st_cmp (op_neAll hu) bo_eq ha hb

/-! ### is -/
theorem repW_non {G : Hp} {m : List Addr} {x : V} {a : W} (r : RepW K P G m x a) : decide (x = .non) = a.isNon := by
  cases a with
  | d d => cases d <;> cases r <;> rfl
  | c k => obtain ⟨p, _, rfl⟩ := r; rfl
  | exc => obtain ⟨p, _, rfl⟩ := r; rfl
theorem bo_notN : BinOk K P (isNonB true) (fun x y H Q => y = .non ∧ Q (.bl (!decide (x = .non))) H) := by
  intro G m H st x y a b Q E hS ra rb ho
  unfold isNonB at ho
  split at ho
  · cases rb
    refine ⟨rfl, ?_⟩
    rw [repW_non ra]
    exact out_ok ho hS (show RepD K G _ _ from .bl _)
  · exact ho.elim
/-! ### in -/
def rInAll (K : PySem.W.Frag) (neg : Bool) : R2 := fun x y H Q => rIn K neg x y H Q ∨ ∃ a o, y = .ref a ∧ DGet H a x o ∧ Q (.bl (if neg then !o.isSome else o.isSome)) H
theorem op_inAll (hu : X.A.units + 1 < cLine) : OpR X (compareOp .In) (rInAll X.K false) := by
  intro pins s σ H x y v u Q I rx ry h
  rcases h with h | ⟨a, o, rfl, g, q⟩
  · exact op_in_seq pins s σ H x y v u Q I rx ry h
  · obtain rfl : u = Value.ref a := ry
    exact d_in hu I g rx fun s3 I3 => ⟨.bl o.isSome, H, I3, rfl, q⟩
theorem op_notInAll (hu : X.A.units + 1 < cLine) : OpR X (compareOp .NotIn) (rInAll X.K true) := by
  intro pins s σ H x y v u Q I rx ry h
  rcases h with h | ⟨a, o, rfl, g, q⟩
  · exact op_notIn_seq pins s σ H x y v u Q I rx ry h
  · obtain rfl : u = Value.ref a := ry
    exact d_notIn hu I g rx fun s3 I3 => ⟨.bl (!o.isSome), H, I3, rfl, q⟩
theorem flat_strs {G : Hp} {k : Str} : ∀ {vs : List V} {ds : List D}, RepL K G vs ds → ds.all isStr = true → vs.all flatV = true ∧ inV (.str k) vs = ds.any fun z => z.eqv (.str k)
  | _, _, .nil, _ => ⟨rfl, rfl⟩
  | _, _, .cons r l, f => by
    rw [List.all_cons, Bool.and_eq_true] at f
    obtain ⟨h1, h2⟩ := flat_strs (k := k) l f.2
    cases r with
    | str x =>
      refine ⟨by rw [List.all_cons, h1]; rfl, ?_⟩
      unfold inV at h2 ⊢
      rw [List.any_cons, List.any_cons, h2]
      rfl
    | _ => exact absurd f.1 Bool.false_ne_true
theorem bo_in {neg : Bool} : BinOk K P (inW neg) (rInAll K neg) := by
  intro G m H st x y a b Q E hS ra rb ho
  unfold inW at ho
  split at ho
  · rename_i k kvs e1 e2
    rw [view_str hS ra e1]
    obtain ⟨p, ks, rfl, hp, r1⟩ := view_dct hS rb e2
    refine .inr ⟨p, _, rfl, .inl ⟨ks, .inr k, .inl hp, rfl, rfl⟩, ?_⟩
    rw [r1.isSome]
    exact out_ok ho hS (show RepD K G _ _ from .bl _)
  · rename_i k ys e1 e2
    rw [view_str hS ra e1]
    obtain ⟨p, vs, rfl, hp, r1⟩ := view_lst hS rb e2
    split at ho
    · rename_i hf
      obtain ⟨h1, h2⟩ := flat_strs (k := k) r1 hf
      refine .inl ⟨p, vs, rfl, .inl (SqL.of hp), rfl, h1, ?_⟩
      rw [h2]
      exact out_ok ho hS (show RepD K G _ _ from .bl _)
    · exact ho.elim
  · rename_i k ys e1 e2
    rw [view_str hS ra e1]
    obtain ⟨p, vs, rfl, hp, r1⟩ := view_tup hS rb e2
    split at ho
    · rename_i hf
      obtain ⟨h1, h2⟩ := flat_strs (k := k) r1 hf
      refine .inl ⟨p, vs, rfl, .inr (hS.sqT hp), rfl, h1, ?_⟩
      rw [h2]
      exact out_ok ho hS (show RepD K G _ _ from .bl _)
    · exact ho.elim
  · exact ho.elim
theorem st_in (hu : X.A.units + 1 < cLine) (ha : SE X P Wx a fa) (hb : SE X P Wx b fb) (hm : behindInMarks .In b = false := by first | rfl | with_unfolding_all rfl) : ST X P Wx (.Compare a [.In] [b] pos) (tvM (binM (inW false) fa fb)) := st_cmp (op_inAll hu) bo_in ha hb hm
theorem st_notIn (hu : X.A.units + 1 < cLine) (ha : SE X P Wx a fa) (hb : SE X P Wx b fb) (hm : behindInMarks .NotIn b = false := by first | rfl | with_unfolding_all rfl) : ST X P Wx (.Compare a [.NotIn] [b] pos) (tvM (binM (inW true) fa fb)) := st_cmp (op_notInAll hu) bo_in ha hb hm

/-! ### subscripts -/
theorem ix_dict (hu : X.A.units + 1 < cLine) : IxR X (fun x y H Q => ∃ a v, x = .ref a ∧ DGet H a y (some v) ∧ Q v H) := by
  intro value slice pins s σ H x y v u Q I rx ry h hs
  obtain ⟨a, r, rfl, g, q⟩ := h
  obtain rfl : v = Value.ref a := rx
  exact tail_any (dict_typeIs I g) PySem.F.slot_dict_getitem.lookup (d_getItem hu I g ry fun w' s3 I3 rw' => ⟨r, H, I3, rw', q⟩) hs
def rIxAll (K : PySem.W.Frag) : R2 := fun x y H Q => rIx K x y H Q ∨ ∃ a v, x = .ref a ∧ DGet H a y (some v) ∧ Q v H
theorem atI_rep {G : Hp} {vs : List V} {ds : List D} {i : Int} {d : D} (r : RepL K G vs ds) (e : atI ds i = some d) : ∃ v, atI vs i = some v ∧ RepD K G v d := by
  unfold atI at e ⊢
  rw [r.length]
  cases q : ixN ds.length i with
  | none => rw [q] at e; cases e
  | some j =>
    rw [q] at e
    exact r.get e
theorem atI_ints {ns : List Int} {i v : Int} (e : atI ns i = some v) : atI (ns.map V.int) i = some (.int v) := by
  unfold atI at e ⊢
  rw [List.length_map]
  cases q : ixN ns.length i with
  | none => rw [q] at e; cases e
  | some j =>
    rw [q] at e
    have e' : ns[j]? = some v := e
    show (ns.map V.int)[j]? = some (.int v)
    rw [List.getElem?_map, e']
    rfl
theorem bo_ix : BinOk K P ixW (rIxAll K) := by
  intro G m H st x y a b Q E hS ra rb ho
  unfold ixW at ho
  split at ho
  · rename_i xs i e1 e2
    rw [view_int hS rb e2]
    obtain ⟨p, vs, rfl, hp, r1⟩ := view_lst hS ra e1
    split at ho
    · rename_i d hd
      obtain ⟨v, hv, rv⟩ := atI_rep r1 hd
      exact .inl (.inl ⟨p, vs, i, v, rfl, rfl, SqL.of hp, hv, out_ok (w := .d d) ho hS rv⟩)
    · exact ho.elim
  · rename_i xs i e1 e2
    rw [view_int hS rb e2]
    obtain ⟨p, vs, rfl, hp, r1⟩ := view_tup hS ra e1
    split at ho
    · rename_i d hd
      obtain ⟨v, hv, rv⟩ := atI_rep r1 hd
      exact .inl (.inr (.inl ⟨p, vs, i, v, rfl, rfl, hS.sqT hp, hv, out_ok (w := .d d) ho hS rv⟩))
    · exact ho.elim
  · rename_i ns i e1 e2
    rw [view_int hS rb e2]
    obtain ⟨p, rfl, hp⟩ := view_scr hS ra e1
    split at ho
    · rename_i d hd
      exact .inl (.inl ⟨p, _, i, _, rfl, rfl, hS.sqL hp, atI_ints hd, out_ok ho hS (show RepD K G _ _ from .int _)⟩)
    · exact ho.elim
  · rename_i kvs k e1 e2
    rw [view_str hS rb e2]
    obtain ⟨p, ks, rfl, hp, r1⟩ := view_dct hS ra e1
    split at ho
    · rename_i d hd
      obtain ⟨v, hv, rv⟩ := r1.look_some hd
      exact .inr ⟨p, v, rfl, .inl ⟨ks, .inr k, .inl hp, rfl, hv.symm⟩, out_ok (w := .d d) ho hS rv⟩
    · exact ho.elim
  · rename_i z i e1 e2
    rw [view_int hS rb e2, view_str hS ra e1]
    split at ho
    · split at ho
      · rename_i hz _ c hc
        exact .inl (.inr (.inr ⟨z, i, c, rfl, rfl, hz, hc, out_ok ho hS (show RepD K G _ _ from .str _)⟩))
      · exact ho.elim
    · exact ho.elim
  · exact ho.elim
theorem se_ix (hu : X.A.units + 1 < cLine) (ha : SE X P Wx a fa) (hb : SE X P Wx b fb) (hs : PlainIx b := by exact fun _ _ => rfl) : SE X P Wx (.Subscript a b pos) (binM ixW fa fb) :=
  conv (pe_ix (ix_seq.or (ix_dict hu)) ha hb hs) fun σ H Q ⟨G, m, env, st, hE, hS, ho⟩ =>
    goG hE hS ho fun G1 m1 H1 v w st1 x1 e1 s1 r1 o1 => goG e1 s1 o1 fun G2 m2 H2 v2 w2 st2 x2 e2 s2 r2 o2 => bo_ix s2 (r1.mono x2.g x2.pre) r2 o2
/-- a table of the text: its entries stand in the written part -/
def TabOk (K : PySem.W.Frag) (w : World) (t : Addr) (T : List (Str × D)) : Prop := ∀ (G : Hp) (k : Str) (d : D), look k T = some d → ∃ v, KDct K w t k v ∧ RepD K G v d
theorem se_tab {x : Str} {t : Addr} {p : Pos} {T : List (Str × D)} (hg : Gl X x) (hm : X.mg x = some (.ref t)) (hT : TabOk X.K X.w t T) (hb : SE X P Wx b fb) (hs : PlainIx b := by exact fun _ _ => rfl) (hd : (x == ("__debug__" : Str)) = false := by decide +kernel) :
    SE X P Wx (.Subscript (.Name x p) b pos) (unM (tabW T) fb) :=
  conv (pe_ix (r := rIxD X.K X.w) ix_kdict (pe_glob (v := .ref t) hg hm rfl hd) hb hs) fun σ H Q ⟨G, m, env, st, hE, hS, ho⟩ =>
    goG hE hS ho fun G1 m1 H1 v w st1 x1 e1 s1 r1 o1 => by
      unfold tabW at o1
      split at o1
      · rename_i k e2
        rw [view_str s1 r1 e2]
        split at o1
        · rename_i d hd'
          obtain ⟨v', hv, rv⟩ := hT G1 k d hd'
          exact ⟨t, k, v', rfl, rfl, hv, out_ok (w := .d d) o1 s1 rv⟩
        · exact o1.elim
      · exact o1.elim

/-! ### slices -/
theorem so_none : SO X P Wx none noneO := convO po_none fun σ H Q ⟨G, m, env, st, hE, hS, ho⟩ => ho G m H none .refl hS rfl
theorem so_some (ha : SE X P Wx a fa) : SO X P Wx (some a) (someO fa) := convO (po_some ha) fun σ H Q ⟨G, m, env, st, hE, hS, ho⟩ =>
  goG hE hS ho fun G1 m1 H1 v w st1 x1 e1 s1 r1 o1 => by
    split at o1
    · rename_i i e2
      exact ⟨i, view_int s1 r1 e2, o1 G1 m1 H1 (some i) .refl s1 rfl⟩
    · exact o1.elim
def rSlAll (K : PySem.W.Frag) : V → Option Int → Option Int → Hp → VK → Prop := fun x lo hi H Q => rSlL K x lo hi H Q ∨ (rSlA K x lo hi H Q ∨ rSlS x lo hi H Q)
theorem cut_map {α β : Type} (f : α → β) (xs : List α) (lo hi : Option Int) : Py.cut (xs.map f) lo hi = (Py.cut xs lo hi).map f := by
  unfold Py.cut
  rw [List.length_map, List.map_take, List.map_drop]
theorem cutV_eq (xs : List V) (lo hi : Option Int) : cutV xs lo hi = Py.cut xs lo hi := rfl
theorem cut_whole {α : Type} (xs : List α) {lo hi : Option Int} (h : HT.sIx xs.length 0 lo = 0 ∧ HT.sIx xs.length xs.length hi = xs.length) : Py.cut xs lo hi = xs := by
  unfold Py.cut
  rw [h.1, h.2]
  simp
theorem uo_sl {own : Bool} {lo hi : Option Int} : UnOk K P (fun x st => slW own x lo hi st) (fun x H Q => rSlAll K x lo hi H Q) := by
  intro G m H st x a Q E hS ra ho
  simp only [slW] at ho
  split at ho
  · rename_i xs e1
    obtain ⟨p, vs, rfl, hp, r1⟩ := view_lst hS ra e1
    obtain ⟨hz, q⟩ := out_newL ho hS (r1.cut lo hi)
    exact .inl ⟨p, vs, rfl, SqL.of hp, q⟩
  · rename_i xs e1
    obtain ⟨p, vs, rfl, hp, r1⟩ := view_tup hS ra e1
    obtain ⟨hz, q⟩ := out_newT ho hS (r1.cut lo hi)
    refine .inr (.inl ⟨p, vs, rfl, hS.sqT hp, fun hw => ?_, fun _ => q⟩)
    rw [r1.length] at hw
    rw [cut_whole xs hw] at ho
    exact out_sameT ho hS (.tup hp r1)
  · rename_i ns e1
    obtain ⟨p, rfl, hp⟩ := view_scr hS ra e1
    have rl : RepL K G (cutV (ns.map V.int) lo hi) ((Py.cut ns lo hi).map D.int) := by
      rw [cutV_eq, cut_map]
      exact RepL.ints _
    obtain ⟨hz, q⟩ := out_newL ho hS rl
    exact .inl ⟨p, _, rfl, hS.sqL hp, q⟩
  · rename_i z e1
    rw [view_str hS ra e1]
    split at ho
    · exact .inr (.inr ⟨z, rfl, by assumption, out_ok ho hS (show RepD K G _ _ from .str _)⟩)
    · exact ho.elim
  · exact ho.elim
theorem se_slice (own : Bool) {lo hi : Option Expr} {flo fhi : M (Option Int)} {p2 : Pos} (ha : SE X P Wx a fa) (hl : SO X P Wx lo flo) (hh : SO X P Wx hi fhi) : SE X P Wx (.Subscript a (.Slice lo hi none p2) pos) (slM own fa flo fhi) :=
  conv (pe_slice (r := rSlAll X.K) (sl_list.or (sl_tupA.or sl_str)) ha hl hh) fun σ H Q ⟨G, m, env, st, hE, hS, ho⟩ =>
    goG hE hS ho fun G1 m1 H1 v w st1 x1 e1 s1 r1 o1 => goG e1 s1 o1 fun G2 m2 H2 l l' st2 x2 e2 s2 r2 o2 => goG e2 s2 o2 fun G3 m3 H3 h h' st3 x3 e3 s3 r3 o3 => by
      have r2' : l = l' := r2
      have r3' : h = h' := r3
      subst r2' r3'
      exact uo_sl s3 ((r1.mono x2.g x2.pre).mono x3.g x3.pre) o3
theorem se_rev (own : Bool) {k : Nat} {p1 p2 p3 : Pos} (ha : SE X P Wx a fa) : SE X P Wx (.Subscript a (.Slice none none (some (.UnaryOp .USub (.Constant (.int 1) k p1) p2)) p3) pos) (unM (revW own) fa) :=
  conv (pe_revL ha) fun σ H Q ⟨G, m, env, st, hE, hS, ho⟩ => goG hE hS ho fun G1 m1 H1 v w st1 x1 e1 s1 r1 o1 => by
    unfold revW at o1
    split at o1
    · rename_i xs e2
      obtain ⟨p, vs, rfl, hp, r2⟩ := view_lst s1 r1 e2
      obtain ⟨hz, q⟩ := out_newL o1 s1 r2.reverse
      exact ⟨p, vs, rfl, SqL.of hp, q⟩
    · exact o1.elim
end
end Py

namespace Py
open PySem L2 PySem.Spec PyProof.Rows
theorem bt_list : bootBuiltins "list" = some (.type "list") := by decide +kernel
theorem bt_tuple : bootBuiltins "tuple" = some (.type "tuple") := by decide +kernel
theorem bt_int : bootBuiltins "int" = some (.type "int") := by decide +kernel
theorem bt_bool : bootBuiltins "bool" = some (.type "bool") := by decide +kernel
abbrev rTup1 (K : PySem.W.Frag) : List V → Hp → VK → Prop := fun xs H Q => ∃ p ys, xs = [.ref p] ∧ ((SqL K H p ys ∧ ∀ l, H l = none → Q (.ref l) (upd H l (.tup ys))) ∨ (SqT K H p ys ∧ Q (.ref p) H))
abbrev rInt1 : List V → Hp → VK → Prop := fun xs H Q => (∃ i, xs = [.int i] ∧ Q (.int i) H) ∨ ∃ k, xs = [.bl k] ∧ Q (.int (if k then 1 else 0)) H
abbrev rMax2 : List V → Hp → VK → Prop := fun xs H Q => ∃ i j, xs = [.int i, .int j] ∧ Q (.int (if j > i then j else i)) H
section
variable {X : Cx} {P : Pm} {Wx : WX} {a b c e : Expr} {es : List Expr} {fa fb fc : M W} {fs : M (List W)} {pos p : Pos} {K : PySem.W.Frag}
theorem repWs1 {G : Hp} {m : List Addr} {xs : List V} {w : W} (h : RepWs K P G m xs [w]) : ∃ v, xs = [v] ∧ RepW K P G m v w := by
  cases h with
  | cons r t => cases t; exact ⟨_, rfl, r⟩
theorem repWs2 {G : Hp} {m : List Addr} {xs : List V} {w w' : W} (h : RepWs K P G m xs [w, w']) : ∃ v v', xs = [v, v'] ∧ RepW K P G m v w ∧ RepW K P G m v' w' := by
  cases h with
  | cons r t =>
    cases t with
    | cons r' t => cases t; exact ⟨_, _, rfl, r, r'⟩
/-! ### calls of built-ins -/
theorem se_callB {x : Str} {id : String} {r : List V → Hp → VK → Prop} {g : List W → Store → Res W} (hc : CallR X (.builtin id) r) (hr : CallOk X.K P g r) (hg : Gl X x) (hm : X.mg x = none) (hv : bootBuiltins x = some (.builtin id)) (ha : SA X P Wx (a :: es) fs)
    (hn : x ≠ "__name__" := by decide +kernel) (hdb : (x == ("__debug__" : Str)) = false := by decide +kernel) (he : starEach (a :: es) X.env = (false, eval a X.env) :: starEach es X.env := by rfl) (hpl : (backTo pos (starEach es X.env)).any (·.1) = false := by rfl) :
    SE X P Wx (.Call (.Name x p) (a :: es) [] pos) (appM g fs) :=
  conv (pe_callB hc hg hm hv ha hn hdb he hpl) fun σ H Q ⟨G, m, env, st, hE, hS, ho⟩ => goG hE hS ho fun G1 m1 H1 v w st1 x1 e1 s1 r1 o1 => hr s1 r1 o1
theorem se_callTy {x : Str} {T : String} {r : List V → Hp → VK → Prop} {g : List W → Store → Res W} (hc : CallR X (.type T) r) (hr : CallOk X.K P g r) (hg : Gl X x) (hm : X.mg x = none) (hv : bootBuiltins x = some (.type T)) (ha : SA X P Wx (a :: es) fs)
    (hn : x ≠ "__name__" := by decide +kernel) (hdb : (x == ("__debug__" : Str)) = false := by decide +kernel) (he : starEach (a :: es) X.env = (false, eval a X.env) :: starEach es X.env := by rfl) (hpl : (backTo pos (starEach es X.env)).any (·.1) = false := by rfl) :
    SE X P Wx (.Call (.Name x p) (a :: es) [] pos) (appM g fs) :=
  conv (pe_callTy hc hg hm hv ha hn hdb he hpl) fun σ H Q ⟨G, m, env, st, hE, hS, ho⟩ => goG hE hS ho fun G1 m1 H1 v w st1 x1 e1 s1 r1 o1 => hr s1 r1 o1
theorem co_1 {g : W → Store → Res W} {r : List V → Hp → VK → Prop} (h : UnOk K P g (fun v H Q => r [v] H Q)) : CallOk K P (app1 g) r := by
  intro G m H st xs as Q E hS ra ho
  match as, ra, ho with
  | [w], ra, ho =>
    obtain ⟨v, rfl, r1⟩ := repWs1 ra
    exact h hS r1 ho
  | [], _, ho => exact ho.elim
  | _ :: _ :: _, _, ho => exact ho.elim
theorem co_2 {g : W → W → Store → Res W} {r : List V → Hp → VK → Prop} (h : BinOk K P g (fun v u H Q => r [v, u] H Q)) : CallOk K P (app2 g) r := by
  intro G m H st xs as Q E hS ra ho
  match as, ra, ho with
  | [w, w'], ra, ho =>
    obtain ⟨v, u, rfl, r1, r2⟩ := repWs2 ra
    exact h hS r1 r2 ho
  | [], _, ho => exact ho.elim
  | [_], _, ho => exact ho.elim
  | _ :: _ :: _ :: _, _, ho => exact ho.elim

def rLenAll (K : PySem.W.Frag) : List V → Hp → VK → Prop := fun xs H Q => (∃ x n, xs = [x] ∧ LenV K x H n ∧ Q (.int n) H) ∨ ∃ a kvs, xs = [V.ref a] ∧ H a = some (.dK kvs) ∧ Q (.int kvs.length) H
theorem uo_len : UnOk K P lenW (fun v H Q => rLenAll K [v] H Q) := by
  intro G m H st x a Q E hS ra ho
  unfold lenW at ho
  split at ho
  · rename_i xs e1
    obtain ⟨p, vs, rfl, hp, r1⟩ := view_lst hS ra e1
    refine .inl ⟨.ref p, vs.length, rfl, .inl ⟨vs, SqL.of hp, rfl⟩, ?_⟩
    rw [r1.length]
    exact out_ok ho hS (show RepD K G _ _ from .int _)
  · rename_i xs e1
    obtain ⟨p, vs, rfl, hp, r1⟩ := view_tup hS ra e1
    refine .inl ⟨.ref p, vs.length, rfl, .inr ⟨vs, hS.sqT hp, rfl⟩, ?_⟩
    rw [r1.length]
    exact out_ok ho hS (show RepD K G _ _ from .int _)
  · rename_i ns e1
    obtain ⟨p, rfl, hp⟩ := view_scr hS ra e1
    refine .inl ⟨.ref p, ns.length, rfl, .inl ⟨_, hS.sqL hp, by rw [List.length_map]⟩, ?_⟩
    exact out_ok ho hS (show RepD K G _ _ from .int _)
  · rename_i kvs e1
    obtain ⟨p, ks, rfl, hp, r1⟩ := view_dct hS ra e1
    refine .inr ⟨p, ks, rfl, hp, ?_⟩
    rw [r1.length]
    exact out_ok ho hS (show RepD K G _ _ from .int _)
  · rename_i z e1
    rw [view_str hS ra e1]
    split at ho
    · exact .inl ⟨.str z, z.length, rfl, ⟨by assumption, rfl⟩, out_ok ho hS (show RepD K G _ _ from .int _)⟩
    · exact ho.elim
  · exact ho.elim
theorem se_len (hg : Gl X "len") (hm : X.mg "len" = none) (ha : SA X P Wx [a] fs) (he : starEach [a] X.env = (false, eval a X.env) :: starEach [] X.env := by rfl) (hpl : (backTo pos (starEach [] X.env)).any (·.1) = false := by rfl) : SE X P Wx (.Call (.Name "len" p) [a] [] pos) (appM (app1 lenW) fs) :=
  se_callB (callOr call_len call_lenD) (co_1 uo_len) hg hm PySem.boot_len ha (by decide +kernel) (by decide +kernel) he hpl
def rListAll (K : PySem.W.Frag) : List V → Hp → VK → Prop := fun xs H Q => (∃ p ys, xs = [.ref p] ∧ (SqL K H p ys ∨ SqT K H p ys) ∧ ∀ l, H l = none → Q (.ref l) (upd H l (.lst ys))) ∨
  ∃ (a : Addr) (kvs : List (Key × V)), xs = [.ref a] ∧ Rd H a (.dK kvs) ∧ ∀ p, H p = none → Q (.ref p) (upd H p (.lst (kvs.map fun kv => kV kv.1)))
theorem uo_list {own : Bool} : UnOk K P (listW own) (fun v H Q => rListAll K [v] H Q) := by
  intro G m H st x a Q E hS ra ho
  unfold listW at ho
  split at ho
  · rename_i xs e1
    obtain ⟨p, vs, rfl, hp, r1⟩ := view_lst hS ra e1
    obtain ⟨hz, q⟩ := out_newL ho hS r1
    exact .inl ⟨p, vs, rfl, .inl (SqL.of hp), q⟩
  · rename_i xs e1
    obtain ⟨p, vs, rfl, hp, r1⟩ := view_tup hS ra e1
    obtain ⟨hz, q⟩ := out_newL ho hS r1
    exact .inl ⟨p, vs, rfl, .inr (hS.sqT hp), q⟩
  · rename_i kvs e1
    obtain ⟨p, ks, rfl, hp, r1⟩ := view_dct hS ra e1
    obtain ⟨hz, q⟩ := out_newL ho hS r1.keys
    exact .inr ⟨p, ks, rfl, .inl hp, q⟩
  · exact ho.elim
theorem se_list (own : Bool) (hc : X.calm = true) (hg : Gl X "list") (hm : X.mg "list" = none) (ha : SA X P Wx [a] fs) (he : starEach [a] X.env = (false, eval a X.env) :: starEach [] X.env := by rfl) (hpl : (backTo pos (starEach [] X.env)).any (·.1) = false := by rfl) : SE X P Wx (.Call (.Name "list" p) [a] [] pos) (appM (app1 (listW own)) fs) :=
  se_callTy (callOr call_list_of (call_listD hc)) (co_1 uo_list) hg hm bt_list ha (by decide +kernel) (by decide +kernel) he hpl
theorem uo_tuple : UnOk K P tupleW (fun v H Q => rTup1 K [v] H Q) := by
  intro G m H st x a Q E hS ra ho
  unfold tupleW at ho
  split at ho
  · rename_i xs e1
    obtain ⟨p, vs, rfl, hp, r1⟩ := view_lst hS ra e1
    obtain ⟨hz, q⟩ := out_newT ho hS r1
    exact ⟨p, vs, rfl, .inl ⟨SqL.of hp, q⟩⟩
  · rename_i xs e1
    obtain ⟨p, vs, rfl, hp, r1⟩ := view_tup hS ra e1
    exact ⟨p, vs, rfl, .inr ⟨hS.sqT hp, out_sameT ho hS (.tup hp r1)⟩⟩
  · exact ho.elim
theorem se_tuple (hg : Gl X "tuple") (hm : X.mg "tuple" = none) (ha : SA X P Wx [a] fs) (he : starEach [a] X.env = (false, eval a X.env) :: starEach [] X.env := by rfl) (hpl : (backTo pos (starEach [] X.env)).any (·.1) = false := by rfl) : SE X P Wx (.Call (.Name "tuple" p) [a] [] pos) (appM (app1 tupleW) fs) :=
  se_callTy (r := rTup1 X.K) call_tuple_of (co_1 (r := rTup1 X.K) uo_tuple) hg hm bt_tuple ha (by decide +kernel) (by decide +kernel) he hpl
theorem uo_int : UnOk K P intW (fun v H Q => rInt1 [v] H Q) := by
  intro G m H st x a Q E hS ra ho
  unfold intW at ho
  split at ho
  · rename_i i e1
    rw [view_int hS ra e1]
    exact .inl ⟨i, rfl, out_ok ho hS (show RepD K G _ _ from .int _)⟩
  · rename_i i e1
    rw [view_bl hS ra e1]
    exact .inr ⟨i, rfl, out_ok ho hS (show RepD K G _ _ from .int _)⟩
  · exact ho.elim
theorem se_intc (hg : Gl X "int") (hm : X.mg "int" = none) (ha : SA X P Wx [a] fs) (he : starEach [a] X.env = (false, eval a X.env) :: starEach [] X.env := by rfl) (hpl : (backTo pos (starEach [] X.env)).any (·.1) = false := by rfl) : SE X P Wx (.Call (.Name "int" p) [a] [] pos) (appM (app1 intW) fs) :=
  se_callTy (r := rInt1) call_int1 (co_1 (r := rInt1) uo_int) hg hm bt_int ha (by decide +kernel) (by decide +kernel) he hpl
theorem bo_max : BinOk K P maxW (fun x y H Q => rMax2 [x, y] H Q) := by
  intro G m H st x y a b Q E hS ra rb ho
  unfold maxW at ho
  split at ho
  · rename_i i j e1 e2
    rw [view_int hS ra e1, view_int hS rb e2]
    exact ⟨i, j, rfl, out_ok ho hS (show RepD K G _ _ from .int _)⟩
  · exact ho.elim
theorem se_max (hc : X.calm = true) (hg : Gl X "max") (hm : X.mg "max" = none) (ha : SA X P Wx [a, b] fs) (he : starEach [a, b] X.env = (false, eval a X.env) :: starEach [b] X.env := by rfl) (hpl : (backTo pos (starEach [b] X.env)).any (·.1) = false := by rfl) : SE X P Wx (.Call (.Name "max" p) [a, b] [] pos) (appM (app2 maxW) fs) :=
  se_callB (r := rMax2) (call_max2 hc) (co_2 (r := rMax2) bo_max) hg hm boot_max ha (by decide +kernel) (by decide +kernel) he hpl
/-! ### displays -/
theorem toDs_cases {G : Hp} {m : List Addr} {H : Hp} {st : Store} {vs : List V} {ws : List W} {α : Type} {Rp : Hp → List Addr → α → W → Prop} {k : List D → Store → Res W} {Q : α → Hp → Prop} {E : Exc → Hp → Prop} (hS : RS0 K P G m H st) (r : RepWs K P G m vs ws)
    (ho : OutG K P G m H Rp ((toDs ws st).bind k) Q E) : ∃ G' ds st', RS0 K P G' m H st' ∧ Ext G m H G' m H ∧ RepL K G' vs ds ∧ OutG K P G' m H Rp (k ds st') Q E := by
  have noE : ∀ {ws : List W} {st : Store} {c : Exc} {s : Store}, toDs ws st ≠ .err c s := by
    intro ws
    induction ws with
    | nil => intro st c s h; cases h
    | cons w ws ih =>
      intro st c s h
      have h' : (toD w st).bind (fun d st1 => (toDs ws st1).bind fun ds st2 => .ok (d :: ds) st2) = .err c s := h
      unfold toD at h'
      cases q : asD st w with
      | none => rw [q] at h'; cases h'
      | some d =>
        rw [q] at h'
        simp only [Res.bind_ok] at h'
        cases q2 : toDs ws (frzW w d st) with
        | ok ds s2 => rw [q2] at h'; cases h'
        | err c' s2 => exact ih q2
        | stuck => rw [q2] at h'; cases h'
  cases q : toDs ws st with
  | ok ds st' =>
    obtain ⟨G', s1, x1, r1⟩ := RS0.toDs hS r q
    rw [q] at ho
    exact ⟨G', ds, st', s1, x1, r1, ho.shift x1⟩
  | err c s => exact absurd q noE
  | stuck => rw [q] at ho; exact ho.elim
theorem se_tup {k : Nat} (h : SA X P Wx es fs) : SE X P Wx (.Tuple es k pos) (tupM fs) :=
  conv (pe_tup h) fun σ H Q ⟨G, m, env, st, hE, hS, ho⟩ => goG hE hS ho fun G1 m1 H1 v w st1 x1 e1 s1 r1 o1 => by
    obtain ⟨G', ds, st', s2, x2, r2, o2⟩ := toDs_cases s1 r1 o1
    exact out_newT o2 s2 r2
theorem se_lst (own : Bool) (h : SA X P Wx es fs) : SE X P Wx (.List es pos) (lstM own fs) :=
  conv (pe_lst h) fun σ H Q ⟨G, m, env, st, hE, hS, ho⟩ => goG hE hS ho fun G1 m1 H1 v w st1 x1 e1 s1 r1 o1 => by
    obtain ⟨G', ds, st', s2, x2, r2, o2⟩ := toDs_cases s1 r1 o1
    exact out_newL o2 s2 r2
/-- {} -/
def dnewM (own : Bool) : M W := fun _ st => newDc own [] st
theorem se_dnew (own : Bool) : SE X P Wx (.Dict [] [] pos) (dnewM own) := conv pe_dnewK fun σ H Q ⟨G, m, env, st, hE, hS, ho⟩ => out_newDc ho hS .nil

/-! ### tests -/
theorem st_tv (ha : SE X P Wx a fa) (he : ∀ whole, isTrue a X.env whole = (do let v ← whole; standAt a.pos; holding [v] (truthy v)) := by intro _; rfl) : ST X P Wx a (tvM fa) :=
  convT (pt_val ha he) fun σ H Q ⟨G, m, env, st, hE, hS, ho⟩ => goG hE hS ho fun G1 m1 H1 v w st1 x1 e1 s1 r1 o1 => out_tv s1 r1 o1
abbrev SW (X : Cx) (P : Pm) (Wx : WX) (e : Expr) (f : M Bool) : Prop := PW X e (rT X.K P Wx f)
theorem convW {t t' : TT} (h : PW X e t) (c : ∀ σ H Q, t' σ H Q → t σ H Q) : PW X e t' := ⟨fun wh pins s σ H Q I q => h.run wh pins s σ H Q I (c σ H Q q)⟩
variable {ta tb : M Bool} {rest : List Expr}
theorem sw_and1 (ha : ST X P Wx a ta) : SW X P Wx (.BoolOp .And [a] pos) ta := pw_and1 ha
theorem sw_or1 (ha : ST X P Wx a ta) : SW X P Wx (.BoolOp .Or [a] pos) ta := pw_or1 ha
theorem sw_and (ha : ST X P Wx a ta) (hb : SW X P Wx (.BoolOp .And (b :: rest) pos) tb) : SW X P Wx (.BoolOp .And (a :: b :: rest) pos) (andT ta tb) :=
  convW (pw_and ha hb) fun σ H Q ⟨G, m, env, st, hE, hS, ho⟩ => goG hE hS ho fun G1 m1 H1 v w st1 x1 e1 s1 r1 o1 => by
    have r1' : v = w := r1
    subst r1'
    cases v with
    | true => exact ⟨G1, m1, env, st1, e1, s1, o1⟩
    | false => exact o1 G1 m1 H1 false .refl s1 rfl
theorem sw_or (ha : ST X P Wx a ta) (hb : SW X P Wx (.BoolOp .Or (b :: rest) pos) tb) : SW X P Wx (.BoolOp .Or (a :: b :: rest) pos) (orT ta tb) :=
  convW (pw_or ha hb) fun σ H Q ⟨G, m, env, st, hE, hS, ho⟩ => goG hE hS ho fun G1 m1 H1 v w st1 x1 e1 s1 r1 o1 => by
    have r1' : v = w := r1
    subst r1'
    cases v with
    | false => exact ⟨G1, m1, env, st1, e1, s1, o1⟩
    | true => exact o1 G1 m1 H1 true .refl s1 rfl
theorem st_w (h : SW X P Wx a ta) : ST X P Wx a ta := PW.pt h
theorem st_not (ha : ST X P Wx a ta) : ST X P Wx (.UnaryOp .Not a pos) (notT ta) :=
  convT (pt_not ha) fun σ H Q ⟨G, m, env, st, hE, hS, ho⟩ => goG hE hS ho fun G1 m1 H1 v w st1 x1 e1 s1 r1 o1 => by
    have r1' : v = w := r1
    subst r1'
    exact o1 G1 m1 H1 _ .refl s1 rfl
theorem se_one {op : BoolOp} (h : SE X P Wx a fa) : SE X P Wx (.BoolOp op [a] pos) fa := pe_one h
theorem se_and (ha : SE X P Wx a fa) (hb : SE X P Wx (.BoolOp .And (b :: rest) pos) fb) : SE X P Wx (.BoolOp .And (a :: b :: rest) pos) (andV fa fb) :=
  conv (pe_and ha hb) fun σ H Q ⟨G, m, env, st, hE, hS, ho⟩ => goG hE hS ho fun G1 m1 H1 v w st1 x1 e1 s1 r1 o1 => by
    obtain ⟨c, rfl, o2⟩ := out_bl r1 o1
    refine ⟨c, rfl, ?_⟩
    cases c with
    | true => exact ⟨G1, m1, env, st1, e1, s1, o2⟩
    | false => exact out_ok o2 s1 (show RepD X.K G1 _ _ from .bl _)
end
end Py

namespace Py
open PySem L2 PySem.Spec PyProof.Rows
section
variable {X : Cx} {P : Pm} {Wx : WX} {a b c e : Expr} {es : List Expr} {fa fb fc : M W} {fs : M (List W)} {pos p : Pos} {K : PySem.W.Frag}
theorem tyOf_ok {G : Hp} {m : List Addr} {H : Hp} {st : Store} {v : V} {w : W} {t : String} (hS : RS0 K P G m H st) (r : RepW K P G m v w) (e : tyOf st w = some t) (ht : t ≠ "object") : TyX K H v (.type t) := by
  have tupTy : ∀ {a : Addr} {vs : List V}, SqT K H a vs → TyX K H (.ref a) (.type "tuple") := fun {a vs} h => by
    rcases h with (h | ⟨o, h⟩) | ⟨o, its, n, h1, h2, _⟩
    · exact .base (.tup h)
    · exact .fTuple h
    · exact .kTuple h1 h2
  cases w with
  | d x =>
    cases x with
    | non => cases e; cases r; exact .base .non
    | bl b => cases e; cases r; exact .base (.bl b)
    | int b => cases e; cases r; exact .base (.int b)
    | str b => cases e; cases r; exact .base (.str b)
    | tup xs =>
      cases e
      cases r with
      | tup h _ => exact tupTy (hS.sqT h)
    | lst xs =>
      cases e
      cases r with
      | lst h _ => exact .base (.lst (hS.sub _ _ h))
    | dct xs =>
      cases e
      cases r with
      | dct h _ => exact .base (.dK (hS.sub _ _ h))
    | scr ns => cases e
  | exc => cases e
  | c k =>
    obtain ⟨a, ha, rfl⟩ := r
    have e' : (match st[k]? with
      | some (.lst _) => some "list"
      | some (.dct _) => some "dict"
      | some (.obj _) => some "object"
      | some (.frz (.lst _)) => some "list"
      | some (.frz (.dct _)) => some "dict"
      | _ => none) = some t := e
    cases q : st[k]? with
    | none => rw [q] at e'; cases e'
    | some c =>
      rw [q] at e'
      have z := hS.cell k a c ha q
      cases c with
      | lst xs => cases e'; obtain ⟨_, vs, h, _⟩ := z; exact .base (.lst h)
      | dct xs => cases e'; obtain ⟨_, vs, h, _⟩ := z; exact .base (.dK h)
      | obj fs => cases e'; exact absurd rfl ht
      | frz d =>
        cases d with
        | lst xs =>
          cases e'
          cases z with
          | lst h _ => exact .base (.lst (hS.sub _ _ h))
        | dct xs =>
          cases e'
          cases z with
          | dct h _ => exact .base (.dK (hS.sub _ _ h))
        | _ => cases e'
/-- what isinstance answers for one written class -/
structure IsTy (K : PySem.W.Frag) (P : Pm) (u : String) : Prop where
  one : ∀ t ∈ ["NoneType", "bool", "int", "str", "tuple", "list", "dict"], PySem.W.kitOne K (.type t) (.type u) = some (isiOne t u)
theorem tyOf_mem {st : Store} {w : W} {t : String} (e : tyOf st w = some t) : t ∈ ["NoneType", "bool", "int", "str", "tuple", "list", "dict"] ∨ t = "object" := by
  cases w with
  | d x => cases x <;> cases e <;> exact .inl (by decide)
  | exc => cases e
  | c k =>
    have e' : (match st[k]? with
      | some (.lst _) => some "list"
      | some (.dct _) => some "dict"
      | some (.obj _) => some "object"
      | some (.frz (.lst _)) => some "list"
      | some (.frz (.dct _)) => some "dict"
      | _ => none) = some t := e
    cases q : st[k]? with
    | none => rw [q] at e'; cases e'
    | some c =>
      rw [q] at e'
      cases c with
      | lst _ => cases e'; exact .inl (by decide)
      | dct _ => cases e'; exact .inl (by decide)
      | obj _ => cases e'; exact .inr rfl
      | frz d => cases d <;> cases e' <;> exact .inl (by decide)
/-- isinstance(x, u), u a built-in class; objects are not asked -/
def isi1 (u : String) (x : W) (st : Store) : Res W := match tyOf st x with
  | some t => if t = "object" then .stuck else .ok (.d (.bl (isiOne t u))) st
  | none => .stuck
theorem isTy_of {u : String} (h : (["NoneType", "bool", "int", "str", "tuple", "list", "dict"].all fun t => kitB t u == some (isiOne t u)) = true) : IsTy K P u := ⟨fun t ht => by
  have z := List.all_eq_true.mp h t ht
  exact kit_ty (by simpa using z)⟩
theorem se_isi {u : String} {x : Str} {pu : Pos} (hk : (["NoneType", "bool", "int", "str", "tuple", "list", "dict"].all fun t => kitB t u == some (isiOne t u)) = true)
    (hg : Gl X "isinstance") (hm : X.mg "isinstance" = none) (hgu : Gl X x) (hmu : X.mg x = none) (hv : bootBuiltins x = some (.type u)) (ha : SE X P Wx a fa)
    (hn : x ≠ "__name__" := by decide +kernel) (hdb : (x == ("__debug__" : Str)) = false := by decide +kernel)
    (h1 : starEach [a, .Name x pu] X.env = (false, eval a X.env) :: starEach [.Name x pu] X.env := by rfl) (h2 : starEach [.Name x pu] X.env = (false, eval (.Name x pu) X.env) :: starEach [] X.env := by rfl) (hpl : (backTo pos (starEach [.Name x pu] X.env)).any (·.1) = false := by rfl) :
    SE X P Wx (.Call (.Name "isinstance" p) [a, .Name x pu] [] pos) (unM (isi1 u) fa) :=
  conv (pe_callB call_isi hg hm boot_isinstance (pa_cons ha (pa_cons (pe_bltn (v := .ty u) hgu hmu hv rfl hn hdb) pa_nil h2) h1) (by decide +kernel) (by decide +kernel) h1 hpl) fun σ H Q ⟨G, m, env, st, hE, hS, ho⟩ =>
    goG hE hS ho fun G1 m1 H1 v w st1 x1 e1 s1 r1 o1 => by
      have T : IsTy X.K P u := isTy_of hk
      unfold isi1 at o1
      split at o1
      · rename_i t e2
        split at o1
        · exact o1.elim
        · rename_i ht
          refine ⟨v, .ty u, .type t, .type u, isiOne t u, rfl, .ty u, tyOf_ok s1 r1 e2 ht, T.one t ((tyOf_mem e2).resolve_right ht), out_ok o1 s1 (show RepD X.K G1 _ _ from .bl _)⟩
      · exact o1.elim
/-! ### methods of lists -/
theorem isLst_ty {G : Hp} {m : List Addr} {H : Hp} {st : Store} {v : V} {w : W} (hS : RS0 K P G m H st) (r : RepW K P G m v w) (e : isLst w st = true) : tyV K "list" v H := by
  unfold isLst at e
  split at e
  · rename_i xs e1
    obtain ⟨p, vs, rfl, hp, _⟩ := view_lst hS r e1
    exact .inl ⟨rfl, _, SqL.of hp⟩
  · cases e
def MtOk (K : PySem.W.Frag) (P : Pm) (g : W → List W → Store → Res W) (r : V → List V → Hp → VK → Prop) : Prop :=
  ∀ {G : Hp} {m : List Addr} {H : Hp} {st : Store} {x : V} {xs : List V} {a : W} {as : List W} {Q : VK} {E : Exc → Hp → Prop}, RS0 K P G m H st → RepW K P G m x a → RepWs K P G m xs as → OutG K P G m H (RepW K P) (g a as st) Q E → r x xs H Q
theorem se_methL {name : Str} {id : String} {r : V → List V → Hp → VK → Prop} {g : W → List W → Store → Res W} {apos : Pos} (slot : Slot "list" name id) (hty : typeOf (.builtin id) = pure (.type "method_descriptor")) (hm : MtR X id r) (hr : MtOk X.K P g r)
    (ho : SE X P Wx a fa) (ha : SA X P Wx (b :: es) fs) (hbase : attributeBase a name X.env (eval a X.env) = eval a X.env := by rfl)
    (hfew : ((backTo pos (starEach (b :: es) X.env)).all (fun x => !x.1) && (backToKw pos (keywordEach [] X.env)).all (fun x => x.1.isSome)
      && decide ((b :: es).length + ([] : List Keyword).length + (if ([] : List Keyword).isEmpty then 0 else 1) < 30)) = true := by rfl)
    (hline : (apos.endLine == pos.line) = true := by rfl) (hs : starEach (b :: es) X.env = (false, eval b X.env) :: starEach es X.env := by rfl) (hplain : (backTo pos (starEach es X.env)).any (·.1) = false := by rfl) :
    SE X P Wx (.Call (.Attribute a name apos) (b :: es) [] pos) (methL g fa fs) :=
  conv (pe_bm PySem.F.plainAttrs_list slot hty hm ho ha hbase hfew hline hs hplain) fun σ H Q ⟨G, m, env, st, hE, hS, ho⟩ => goG hE hS ho fun G1 m1 H1 v w st1 x1 e1 s1 r1 o1 => by
    by_cases hl : isLst w st1 = true
    · rw [if_pos hl] at o1
      exact ⟨isLst_ty s1 r1 hl, goG e1 s1 o1 fun G2 m2 H2 v2 w2 st2 x2 e2 s2 r2 o2 => hr s2 (r1.mono x2.g x2.pre) r2 o2⟩
    · rw [if_neg hl] at o1
      exact o1.elim
/-- a live list cell -/
theorem live_lst {G : Hp} {m : List Addr} {H : Hp} {st : Store} {v : V} {k : Nat} {xs : List D} (hS : RS0 K P G m H st) (r : RepW K P G m v (.c k)) (e : st[k]? = some (.lst xs)) : ∃ a vs, v = .ref a ∧ m[k]? = some a ∧ G a = none ∧ H a = some (.lst vs) ∧ RepL K G vs xs := by
  obtain ⟨a, ha, rfl⟩ := r
  obtain ⟨n, vs, h, l⟩ := hS.cell k a _ ha e
  exact ⟨a, vs, rfl, ha, n, h, l⟩
theorem live_dct {G : Hp} {m : List Addr} {H : Hp} {st : Store} {v : V} {k : Nat} {xs : List (Str × D)} (hS : RS0 K P G m H st) (r : RepW K P G m v (.c k)) (e : st[k]? = some (.dct xs)) : ∃ a vs, v = .ref a ∧ m[k]? = some a ∧ G a = none ∧ H a = some (.dK vs) ∧ RepK K G vs xs := by
  obtain ⟨a, ha, rfl⟩ := r
  obtain ⟨n, vs, h, l⟩ := hS.cell k a _ ha e
  exact ⟨a, vs, rfl, ha, n, h, l⟩
theorem out_wlst {G : Hp} {m : List Addr} {H : Hp} {st : Store} {a : Addr} {k : Nat} {xs : List D} {vs : List V} {w : W} {u : V} {Q : VK} {E : Exc → Hp → Prop} (hS : RS0 K P G m H st) (ha : m[k]? = some a) (hg : G a = none) (l : RepL K G vs xs) (hu : RepW K P G m u w)
    (ho : OutG K P G m H (RepW K P) (.ok w (st.set k (.lst xs))) Q E) : Q u (upd H a (.lst vs)) := by
  have hc : CellOk K P G m (upd H a (.lst vs)) a (.lst xs) := ⟨hg, vs, upd_same, l⟩
  obtain ⟨s1, x1⟩ := hS.write ha hg hc
  exact ho G m _ u x1 s1 hu
theorem mo_append : MtOk K P (arg1 appendW) rAppend := by
  intro G m H st x xs a as Q E hS ra rs ho
  match as, rs, ho with
  | [y], rs, ho =>
    obtain ⟨v, rfl, r1⟩ := repWs1 rs
    simp only [arg1, appendW] at ho
    cases a with
    | d _ => exact ho.elim
    | exc => exact ho.elim
    | c k =>
      simp only [toD] at ho
      cases q : asD st y with
      | none => rw [q] at ho; exact ho.elim
      | some d =>
        rw [q] at ho
        simp only [Res.bind_ok] at ho
        obtain ⟨G', s1, x1, rd⟩ := hS.toD r1 q
        replace ho := ho.shift x1
        split at ho
        · rename_i zs hz
          obtain ⟨p, vs, rfl, hp, hn, hh, l⟩ := live_lst s1 (RepW.mono x1.g x1.pre ra) hz
          split at ho
          · rename_i hlt
            refine ⟨p, vs, v, rfl, rfl, hh, by rw [l.length]; exact hlt, ?_⟩
            exact out_wlst (w := .d .non) s1 hp hn (l.append (.one rd)) .non ho
          · exact ho.elim
        · exact ho.elim
  | [], _, ho => exact ho.elim
  | _ :: _ :: _, _, ho => exact ho.elim
theorem se_append {apos : Pos} (ho : SE X P Wx a fa) (ha : SA X P Wx [b] fs) (hbase : attributeBase a "append" X.env (eval a X.env) = eval a X.env := by rfl)
    (hfew : ((backTo pos (starEach [b] X.env)).all (fun x => !x.1) && (backToKw pos (keywordEach [] X.env)).all (fun x => x.1.isSome)
      && decide ([b].length + ([] : List Keyword).length + (if ([] : List Keyword).isEmpty then 0 else 1) < 30)) = true := by rfl)
    (hline : (apos.endLine == pos.line) = true := by rfl) (hs : starEach [b] X.env = (false, eval b X.env) :: starEach [] X.env := by rfl) (hplain : (backTo pos (starEach [] X.env)).any (·.1) = false := by rfl) :
    SE X P Wx (.Call (.Attribute a "append" apos) [b] [] pos) (methL (arg1 appendW) fa fs) :=
  se_methL PySem.F.slot_list_append PySem.F.type_list_append mt_append mo_append ho ha hbase hfew hline hs hplain
/-- ''.join(xs) -/
theorem se_join {z : Str} {j : Nat} {pz apos : Pos} (ha : SE X P Wx a fa) (hs : starEach [a] X.env = [(false, eval a X.env)] := by rfl) (hbase : attributeBase (.Constant (.str z) j pz) "join" X.env (eval (.Constant (.str z) j pz) X.env) = eval (.Constant (.str z) j pz) X.env := by rfl)
    (hline : (apos.endLine == pos.line) = true := by rfl) : SE X P Wx (.Call (.Attribute (.Constant (.str z) j pz) "join" apos) [a] [] pos) (unM (joinS z) fa) :=
  conv (pe_join (pe_str (x := z)) ha hs hbase hline) fun σ H Q ⟨G, m, env, st, hE, hS, ho⟩ => ⟨⟨z, rfl⟩, goG hE hS ho fun G1 m1 H1 v w st1 x1 e1 s1 r1 o1 => by
    unfold joinS at o1
    split at o1
    · rename_i xs e2
      obtain ⟨p, vs, rfl, hp, l⟩ := view_lst s1 r1 e2
      split at o1
      · rename_i ys hy
        have ev := RepL.strs l hy
        subst ev
        split at o1
        · exact ⟨z, p, ys, rfl, rfl, .inl (SqL.of hp), by assumption, out_ok o1 s1 (show RepD X.K G1 _ _ from .str _)⟩
        · exact o1.elim
      · exact o1.elim
    · exact o1.elim⟩
/-! ### fields -/
theorem RepW.ofCore {G : Hp} {m : List Addr} {v : V} {w : W} (r : RepW K P.core G m v w) : RepW K P G m v w := by
  cases w with
  | d x => exact r
  | c k => exact r
  | exc => obtain ⟨a, e, _⟩ := r; cases e
theorem RepW.toCore {G : Hp} {m : List Addr} {v : V} {w : W} (r : RepW K P G m v w) (h : w.isExc = false) : RepW K P.core G m v w := by
  cases w with
  | d x => exact r
  | c k => exact r
  | exc => cases h
theorem RepF.get {G : Hp} {m : List Addr} {f : Str} {w : W} : ∀ {vs : List (Str × V)} {ws : List (Str × W)}, RepF K P G m vs ws → getF f ws = some w → ∃ v, vs.lookup f = some v ∧ RepW K P.core G m v w
  | _, _, .nil, e => by cases e
  | _, _, .cons (k := k) (ws := ws) (w := w') r l, e => by
    have e' : (if k = f then some w' else getF f ws) = some w := e
    by_cases h : k = f
    · rw [if_pos h] at e'
      cases e'
      subst h
      exact ⟨_, by rw [List.lookup_cons, beq_self_eq_true], r⟩
    · rw [if_neg h] at e'
      obtain ⟨v, h1, h2⟩ := l.get e'
      refine ⟨v, ?_, h2⟩
      have hb : (f == k) = false := beq_eq_false_iff_ne.mpr fun z => h z.symm
      rw [List.lookup_cons, hb]
      exact h1
theorem RepF.length {G : Hp} {m : List Addr} : ∀ {vs : List (Str × V)} {ws : List (Str × W)}, RepF K P G m vs ws → vs.length = ws.length
  | _, _, .nil => rfl
  | _, _, .cons _ l => congrArg (· + 1) l.length
theorem RepF.put {G : Hp} {m : List Addr} {f : Str} {v : V} {w : W} (r : RepW K P.core G m v w) : ∀ {vs : List (Str × V)} {ws : List (Str × W)}, RepF K P G m vs ws → RepF K P G m (L2.putF f v vs) (Py.putF f w ws)
  | _, _, .nil => .cons r .nil
  | _, _, .cons (k := k) (v := v') (vs := vs) (w := w') (ws := ws) r' l => by
    have e1 : L2.putF f v ((k, v') :: vs) = if k = f then (k, v) :: vs else (k, v') :: L2.putF f v vs := rfl
    have e2 : Py.putF f w ((k, w') :: ws) = if k = f then (k, w) :: ws else (k, w') :: Py.putF f w ws := rfl
    rw [e1, e2]
    by_cases h : k = f
    · rw [if_pos h, if_pos h]; exact .cons r l
    · rw [if_neg h, if_neg h]; exact .cons r' (l.put r)
end
end Py

namespace Py
open PySem L2 PySem.Spec PyProof.Rows
section
variable {X : Cx} {P : Pm} {Wx : WX} {a b c e : Expr} {es : List Expr} {fa fb fc : M W} {fs : M (List W)} {pos p : Pos} {K : PySem.W.Frag} {tg : Expr}
/-! ### dict displays of constants -/
def cV : D → V
  | .int i => .int i
  | .str s => .str s
  | .bl b => .bl b
  | _ => .non
def isC : D → Bool
  | .int _ => true | .str _ => true | .bl _ => true | .non => true | _ => false
theorem rep_cV {G : Hp} : ∀ {d : D}, isC d = true → RepD K G (cV d) d
  | .int i, _ => .int i
  | .str i, _ => .str i
  | .bl i, _ => .bl i
  | .non, _ => .non
def cK (kvs : List (Str × D)) : List (Key × V) := kvs.map fun p => (Sum.inr p.1, cV p.2)
theorem rep_cK {G : Hp} : ∀ {kvs : List (Str × D)}, (kvs.all fun p => isC p.2) = true → RepK K G (cK kvs) kvs
  | [], _ => .nil
  | p :: r, h => by
    rw [List.all_cons, Bool.and_eq_true] at h
    exact .cons (rep_cV h.1) (rep_cK h.2)
abbrev SD (X : Cx) (pos : Pos) (keys : List (Option Expr)) (values : List Expr) (kvs : List (Str × D)) : Prop := PPs X pos keys values (kvs.map fun p => (tC (.str p.1), tC (cV p.2)))
theorem sd_nil : SD X pos [] [] [] := pps_nil
theorem sd_cons {k : Str} {j : Nat} {pk : Pos} {v : Expr} {d : D} {ks : List (Option Expr)} {vs : List Expr} {kvs : List (Str × D)} (hv : PE X v (tC (cV d))) (hr : SD X pos ks vs kvs) : SD X pos (some (.Constant (.str k) j pk) :: ks) (v :: vs) ((k, d) :: kvs) := pps_cons pe_str hv hr
def dspC (own : Bool) (kvs : List (Str × D)) : M W := fun _ st => newDc own kvs st
theorem tPairs_c {Q : List (V × V) → Hp → Prop} {σ : L2.St} {H : Hp} : ∀ (kvs : List (Str × D)), (∀ ps, ps = kvs.map (fun p => (V.str p.1, cV p.2)) → Q ps H) → tPairs (kvs.map fun p => (tC (.str p.1), tC (cV p.2))) σ H Q
  | [], h => h [] rfl
  | p :: r, h => by
    show tPairs (r.map fun p => (tC (.str p.1), tC (cV p.2))) σ H fun ps H3 => Q ((V.str p.1, cV p.2) :: ps) H3
    exact tPairs_c r fun ps e => h _ (by rw [e]; rfl)
theorem se_dsp (own : Bool) {keys : List (Option Expr)} {values : List Expr} {kvs : List (Str × D)} (h : SD X pos keys values kvs) (hall : keys.all (·.isSome) = true := by rfl) (hl : keys.length = values.length := by rfl) (h0 : keys ≠ [] := by (intro z; cases z)) (h15 : keys.length ≤ 15 := by decide)
    (hk : kvs.length ≤ 15 := by decide) (hc : (kvs.all fun p => isC p.2) = true := by decide +kernel) (hm : mergeK [] (cK kvs) = cK kvs := by decide +kernel) : SE X P Wx (.Dict keys values pos) (dspC own kvs) :=
  conv (pe_disp h hall hl h0 h15) fun σ H Q ⟨G, m, env, st, hE, hS, ho⟩ => fun p hp => tPairs_c kvs fun ps e => by
    refine ⟨upd_same, cK kvs, ?_, by unfold cK; rw [List.length_map]; exact hk, ?_⟩
    · rw [e]
      unfold cK
      rw [List.map_map]
      rfl
    · rw [hm, upd_upd]
      exact out_newDc ho hS (rep_cK hc) p hp

/-! ### what is walked -/
/-- an iterator that gives the items xs, while the frozen part stands -/
structure Walks (K : PySem.W.Frag) (G : Hp) (J : It) (xs : List D) : Prop where
  go : ∀ (i : Nat) (H : Hp), (∀ a o, G a = some o → H a = some o) → i < xs.length → J.go i H
  stop : ∀ (i : Nat) (H : Hp), (∀ a o, G a = some o → H a = some o) → xs.length ≤ i → J.stop i H
  yld : ∀ (i : Nat) (H : Hp) (x : V) (H' : Hp) (d : D), (∀ a o, G a = some o → H a = some o) → xs[i]? = some d → J.yld i H x H' →
    (H' = H ∧ RepD K G x d) ∨ ∃ T vs ds, x = .ref T ∧ H T = none ∧ H' = upd H T (.tup vs) ∧ d = .tup ds ∧ RepL K G vs ds
theorem Walks.mono {G G' : Hp} {J : It} {xs : List D} (g : GLe G G') (h : Walks K G J xs) : Walks K G' J xs :=
  ⟨fun i H hg => h.go i H fun a o q => hg a o (g a o q), fun i H hg => h.stop i H fun a o q => hg a o (g a o q), fun i H x H' d hg e y => by
    rcases h.yld i H x H' d (fun a o q => hg a o (g a o q)) e y with ⟨e1, r⟩ | ⟨T, vs, ds, e1, e2, e3, e4, r⟩
    · exact .inl ⟨e1, r.mono g⟩
    · exact .inr ⟨T, vs, ds, e1, e2, e3, e4, r.mono g⟩⟩
abbrev SI (X : Cx) (P : Pm) (Wx : WX) (tg iter : Expr) (fi : M (List D)) : Prop := PI X tg iter (rdG X.K P Wx (fun G _ J xs => Walks X.K G J xs) fi)
theorem convI {w w' : TI} (h : PI X tg e w) (c : ∀ σ H R, w' σ H R → w σ H R) : PI X tg e w' := ⟨fun pins s σ H R I q => h.run pins s σ H R I (c σ H R q)⟩
theorem walks_list {G : Hp} {a : Addr} {vs : List V} {xs : List D} (h : G a = some (.lst vs)) (l : RepL K G vs xs) : Walks K G (Itl K a) xs := by
  refine ⟨fun i H hg hi => ?_, fun i H hg hi => ⟨vs, SqL.of (hg _ _ h), by rw [l.length]; exact hi⟩, fun i H x H' d hg e y => ?_⟩
  · have hi' : i < vs.length := by rw [l.length]; exact hi
    exact ⟨vs, vs[i], SqL.of (hg _ _ h), by simp [hi']⟩
  · obtain ⟨e1, y⟩ := y
    obtain ⟨v, hv, r⟩ := l.get e
    have := y vs (SqL.of (hg _ _ h))
    rw [hv] at this
    cases this
    exact .inl ⟨e1, r⟩
theorem walks_tup {G : Hp} {a : Addr} {vs : List V} {xs : List D} (h : SqT K G a vs) (l : RepL K G vs xs) : Walks K G (Itt K a) xs := by
  have h' : ∀ {H : Hp}, (∀ a o, G a = some o → H a = some o) → SqT K H a vs := fun hg => Evl.ex_t hg h
  refine ⟨fun i H hg hi => ?_, fun i H hg hi => ⟨vs, h' hg, by rw [l.length]; exact hi⟩, fun i H x H' d hg e y => ?_⟩
  · have hi' : i < vs.length := by rw [l.length]; exact hi
    exact ⟨vs, vs[i], h' hg, by simp [hi']⟩
  · obtain ⟨e1, y⟩ := y
    obtain ⟨v, hv, r⟩ := l.get e
    have := y vs (h' hg)
    rw [hv] at this
    cases this
    exact .inl ⟨e1, r⟩
/-- over a list or a tuple -/
theorem pi_any {l : Expr} {tl : TE} (hl : PE X l tl) : PI X tg l (fun σ H R => tl σ H fun x H1 => ∃ a, x = .ref a ∧ (((∃ xs, SqL X.K H1 a xs) ∧ R (Itl X.K a) H1) ∨ ((∃ xs, SqT X.K H1 a xs) ∧ R (Itt X.K a) H1))) := by
  refine ⟨fun pins s σ H R I h => ?_⟩
  refine thn (hl.run pins s σ H _ I h) fun v s1 ⟨x, H1, I1, r1, q1⟩ => ?_
  obtain ⟨a, e, q⟩ := q1
  subst e
  cases r1
  rcases q with ⟨⟨xs, hq⟩, q⟩ | ⟨⟨xs, hq⟩, q⟩
  · obtain ⟨its, rv, p, hz⟩ := I1.list hq
    refine wpAny_pyIter_list p.isList ?_
    refine ⟨s1.heap.objs.size, [s1.heap.objs.size], _, _, H1, rfl, I1.kept (t' := s1.toks) fun b o e => Heap.get?_push_of_some _ e, turn_list a _, ⟨_, Heap.get?_push_size _ rfl, rfl, rfl⟩, fun b hb => ?_, q⟩
    have e : b = s1.heap.objs.size := by simpa using hb
    subst e
    exact I1.fpOk (Nat.le_refl _) (I1.hok.fresh (Nat.le_refl _))
  · obtain ⟨its, rv, p, hz⟩ := I1.tuple hq
    refine wpAny_pyIter_tuple (show s1.heap.IsTuple a its.toArray from p) ?_
    refine ⟨s1.heap.objs.size, [s1.heap.objs.size], _, _, H1, rfl, I1.kept (t' := s1.toks) fun b o e => Heap.get?_push_of_some _ e, turn_tuple a _, ⟨_, Heap.get?_push_size _ rfl, rfl, rfl⟩, fun b hb => ?_, q⟩
    have e : b = s1.heap.objs.size := by simpa using hb
    subst e
    exact I1.fpOk (Nat.le_refl _) (I1.hok.fresh (Nat.le_refl _))
theorem items_cases {G : Hp} {m : List Addr} {H : Hp} {st : Store} {v : V} {w : W} {α β : Type} {Rp : Hp → List Addr → β → α → Prop} {k : List D → Store → Res α} {Q : β → Hp → Prop} {E : Exc → Hp → Prop} (hS : RS0 K P G m H st) (r : RepW K P G m v w)
    (ho : OutG K P G m H Rp ((itemsW w st).bind k) Q E) : ∃ G' xs st' a vs, v = .ref a ∧ RS0 K P G' m H st' ∧ Ext G m H G' m H ∧ RepL K G' vs xs ∧ (G' a = some (.lst vs) ∨ SqT K G' a vs) ∧ OutG K P G' m H Rp (k xs st') Q E := by
  unfold itemsW toD at ho
  cases q : asD st w with
  | none => rw [q] at ho; exact ho.elim
  | some d =>
    rw [q] at ho
    obtain ⟨G', s1, x1, rd⟩ := hS.toD r q
    cases d with
    | lst xs =>
      cases rd with
      | lst h l => exact ⟨G', xs, _, _, _, rfl, s1, x1, l, .inl h, OutG.shift ho x1⟩
    | tup xs =>
      cases rd with
      | tup h l => exact ⟨G', xs, _, _, _, rfl, s1, x1, l, .inr h, OutG.shift ho x1⟩
    | _ => exact ho.elim
theorem si_it (ha : SE X P Wx a fa) : SI X P Wx tg a (itM fa) :=
  convI (pi_any ha) fun σ H R ⟨G, m, env, st, hE, hS, ho⟩ => goG hE hS ho fun G1 m1 H1 v w st1 x1 e1 s1 r1 o1 => by
    have o1' : OutG X.K P G1 m1 H1 (fun G _ J xs => Walks X.K G J xs) ((itemsW w st1).bind fun xs s => .ok xs s) R (fun c H' => Wx (.ref (P.EC c)) none σ H') := by
      have e : ((itemsW w st1).bind fun xs s => (.ok xs s : Res (List D))) = itemsW w st1 := by cases itemsW w st1 <;> rfl
      rw [e]; exact o1
    obtain ⟨G', xs, st', q, vs, rfl, s2, x2, l, h, o2⟩ := items_cases s1 r1 o1'
    rcases h with h | h
    · exact ⟨q, rfl, .inl ⟨⟨vs, SqL.of (s2.sub _ _ h)⟩, o2 G' m1 H1 _ .refl s2 (walks_list h l)⟩⟩
    · exact ⟨q, rfl, .inr ⟨⟨vs, s2.sqT h⟩, o2 G' m1 H1 _ .refl s2 (walks_tup h l)⟩⟩
theorem si_rng (hg : Gl X "range") (hm : X.mg "range" = none) (ha : SE X P Wx a fa) (hs : starEach [a] X.env = [(false, eval a X.env)] := by rfl) (h1 : starEach [a] X.env = (false, eval a X.env) :: starEach [] X.env := by rfl) : SI X P Wx tg (.Call (.Name "range" p) [a] [] pos) (rngM fa) :=
  convI (pi_range1 hg hm (pa_cons ha pa_nil h1) hs) fun σ H R ⟨G, m, env, st, hE, hS, ho⟩ => goG hE hS ho fun G1 m1 H1 v w st1 x1 e1 s1 r1 o1 => by
    split at o1
    · rename_i n e2
      split at o1
      · rename_i hn
        replace hn := (rngOk_iff _).mp hn
        have ev := view_int s1 r1 e2
        subst ev
        refine ⟨n, rfl, by omega, by omega, o1 G1 m1 H1 _ .refl s1 ?_⟩
        refine ⟨fun i H hg hi => ?_, fun i H hg hi => ?_, fun i H x H' d hg e y => ?_⟩
        · simpa [Itr] using hi
        · simpa [Itr] using hi
        · obtain ⟨e1, e2⟩ := y
          subst e2
          rw [List.getElem?_map] at e
          cases q : (List.range n.toNat)[i]? with
          | none => rw [q] at e; cases e
          | some j =>
            rw [q] at e
            cases e
            have hj : j = i := by
              have := List.getElem?_eq_some_iff.mp q
              obtain ⟨h1, h2⟩ := this
              simp at h2
              exact h2.symm
            subst hj
            refine .inl ⟨e1, ?_⟩
            have : (0 : Int) + (j : Int) = (j : Int) := by omega
            rw [this]
            exact .int _
      · exact o1.elim
    · exact o1.elim
theorem zip_get {xs ys : List D} {i : Nat} {d : D} (e : ((xs.zip ys).map fun p => D.tup [p.1, p.2])[i]? = some d) : ∃ x y, xs[i]? = some x ∧ ys[i]? = some y ∧ d = .tup [x, y] := by
  rw [List.getElem?_map] at e
  cases q : (xs.zip ys)[i]? with
  | none => rw [q] at e; cases e
  | some p =>
    rw [q] at e
    cases e
    obtain ⟨h1, h2⟩ := List.getElem?_zip_eq_some.mp q
    exact ⟨p.1, p.2, h1, h2, rfl⟩
theorem walks_zipL {G : Hp} {a b : Addr} {vs us : List V} {xs ys : List D} (h : G a = some (.lst vs)) (l : RepL K G vs xs) (h' : G b = some (.lst us)) (l' : RepL K G us ys) : Walks K G (Itz K a b) ((xs.zip ys).map fun p => .tup [p.1, p.2]) := by
  refine ⟨fun i H hg hi => ?_, fun i H hg hi => ⟨vs, us, SqL.of (hg _ _ h), SqL.of (hg _ _ h'), ?_⟩, fun i H x H' d hg e y => ?_⟩
  · simp only [List.length_map, List.length_zip] at hi
    have h1 : i < vs.length := by rw [l.length]; omega
    have h2 : i < us.length := by rw [l'.length]; omega
    exact ⟨vs, us, vs[i], us[i], SqL.of (hg _ _ h), SqL.of (hg _ _ h'), by simp [h1], by simp [h2]⟩
  · simp only [List.length_map, List.length_zip] at hi
    rw [l.length, l'.length]
    omega
  · obtain ⟨T, u, w, e1, e2, e3, y1, y2⟩ := y
    obtain ⟨dx, dy, q1, q2, rfl⟩ := zip_get e
    obtain ⟨v1, hv1, r1⟩ := l.get q1
    obtain ⟨v2, hv2, r2⟩ := l'.get q2
    have z1 := y1 vs (SqL.of (hg _ _ h))
    have z2 := y2 us (SqL.of (hg _ _ h'))
    rw [hv1] at z1
    rw [hv2] at z2
    cases z1; cases z2
    exact .inr ⟨T, [u, w], [dx, dy], e1, e2, e3, rfl, .cons r1 (.cons r2 .nil)⟩
theorem walks_zipT {G : Hp} {a b : Addr} {vs us : List V} {xs ys : List D} (h : SqT K G a vs) (l : RepL K G vs xs) (h' : SqT K G b us) (l' : RepL K G us ys) : Walks K G (RZ.ItzT K a b) ((xs.zip ys).map fun p => .tup [p.1, p.2]) := by
  have k : ∀ {H : Hp}, (∀ a o, G a = some o → H a = some o) → SqT K H a vs := fun hg => Evl.ex_t hg h
  have k' : ∀ {H : Hp}, (∀ a o, G a = some o → H a = some o) → SqT K H b us := fun hg => Evl.ex_t hg h'
  refine ⟨fun i H hg hi => ?_, fun i H hg hi => ⟨vs, us, k hg, k' hg, ?_⟩, fun i H x H' d hg e y => ?_⟩
  · simp only [List.length_map, List.length_zip] at hi
    have h1 : i < vs.length := by rw [l.length]; omega
    have h2 : i < us.length := by rw [l'.length]; omega
    exact ⟨vs, us, vs[i], us[i], k hg, k' hg, by simp [h1], by simp [h2]⟩
  · simp only [List.length_map, List.length_zip] at hi
    rw [l.length, l'.length]
    omega
  · obtain ⟨T, u, w, e1, e2, e3, y1, y2⟩ := y
    obtain ⟨dx, dy, q1, q2, rfl⟩ := zip_get e
    obtain ⟨v1, hv1, r1⟩ := l.get q1
    obtain ⟨v2, hv2, r2⟩ := l'.get q2
    have z1 := y1 vs (k hg)
    have z2 := y2 us (k' hg)
    rw [hv1] at z1
    rw [hv2] at z2
    cases z1; cases z2
    exact .inr ⟨T, [u, w], [dx, dy], e1, e2, e3, rfl, .cons r1 (.cons r2 .nil)⟩
/-- zip of two lists, of two tuples -/
def zipM2 (a b : M W) : M (List D) := fun env st => (a env st).bind fun x s1 => (b env s1).bind fun y s2 => match asD s2 x, asD s2 y with
  | some (.lst _), some (.lst _) => (itemsW x s2).bind fun xs s3 => (itemsW y s3).bind fun ys s4 => .ok ((xs.zip ys).map fun p => .tup [p.1, p.2]) s4
  | some (.tup xs), some (.tup ys) => .ok ((xs.zip ys).map fun p => .tup [p.1, p.2]) s2
  | _, _ => .stuck
theorem items_lst {G : Hp} {m : List Addr} {H : Hp} {st : Store} {v : V} {w : W} {xs : List D} (hS : RS0 K P G m H st) (r : RepW K P G m v w) (e : asD st w = some (.lst xs)) :
    itemsW w st = .ok xs (frzW w (.lst xs) st) ∧ ∃ G' a vs, v = .ref a ∧ RS0 K P G' m H (frzW w (.lst xs) st) ∧ Ext G m H G' m H ∧ RepL K G' vs xs ∧ G' a = some (.lst vs) := by
  refine ⟨by unfold itemsW toD; rw [e]; rfl, ?_⟩
  obtain ⟨G', s1, x1, rd⟩ := hS.toD r e
  cases rd with
  | lst h l => exact ⟨G', _, _, rfl, s1, x1, l, h⟩
theorem asD_frz {st : Store} {w w' : W} {d : D} {xs : List D} (e : asD st w = some (.lst xs)) (h : asD st w' = some d) : asD (frzW w (.lst xs) st) w' = some d := by
  cases w with
  | d x => exact h
  | exc => exact h
  | c k =>
    cases w' with
    | d x => exact h
    | exc => exact h
    | c j =>
      show asD (st.set k (.frz (.lst xs))) (.c j) = some d
      by_cases hj : k = j
      · subst hj
        rw [e] at h
        cases h
        have hk : k < st.length := by
          cases q : st[k]? with
          | none => simp only [asD, q] at e; cases e
          | some c => exact (List.getElem?_eq_some_iff.mp q).1
        simp only [asD, List.getElem?_set_self hk]
      · simp only [asD, List.getElem?_set_ne hj]
        exact h
theorem si_zip {elts : List Expr} {kk : Nat} {tpos : Pos} (hg : Gl X "zip") (hm : X.mg "zip" = none) (ha : SE X P Wx a fa) (hb : SE X P Wx b fb)
    (hs : starEach [a, b] X.env = (false, eval a X.env) :: starEach [b] X.env := by rfl) (hs2 : starEach [b] X.env = (false, eval b X.env) :: starEach [] X.env := by rfl) (hpl : (backTo pos (starEach [b] X.env)).any (·.1) = false := by rfl) :
    SI X P Wx (.Tuple elts kk tpos) (.Call (.Name "zip" p) [a, b] [] pos) (zipM2 fa fb) :=
  convI (RZ.pi_zipA hg hm (pa_cons ha (pa_cons hb pa_nil hs2) hs) hs hpl) fun σ H R ⟨G, m, env, st, hE, hS, ho⟩ => goG hE hS ho fun G1 m1 H1 v w st1 x1 e1 s1 r1 o1 => goG e1 s1 o1 fun G2 m2 H2 v2 w2 st2 x2 e2 s2 r2 o2 => by
    have r1' := RepW.mono x2.g x2.pre r1
    split at o2
    · rename_i xs ys q1 q2
      obtain ⟨i1, G3, p1, vs, rfl, s3, x3, l1, h1⟩ := items_lst s2 r1' q1
      obtain ⟨i2, G4, p2, us, rfl, s4, x4, l2, h2⟩ := items_lst s3 (RepW.mono x3.g x3.pre r2) (asD_frz q1 q2)
      rw [i1, Res.bind_ok, i2, Res.bind_ok] at o2
      exact ⟨p1, p2, vs, us, rfl, .inl ⟨SqL.of (s4.sub _ _ (x4.g _ _ h1)), SqL.of (s4.sub _ _ h2), o2 G4 m2 H2 _ (x3.trans x4) s4 (walks_zipL (x4.g _ _ h1) (l1.mono x4.g) h2 l2)⟩⟩
    · rename_i xs ys q1 q2
      obtain ⟨p1, vs, rfl, h1, l1⟩ := view_tup s2 r1' q1
      obtain ⟨p2, us, rfl, h2, l2⟩ := view_tup s2 r2 q2
      exact ⟨p1, p2, vs, us, rfl, .inr ⟨s2.sqT h1, s2.sqT h2, o2 G2 m2 H2 _ .refl s2 (walks_zipT h1 l1 h2 l2)⟩⟩
    · exact o2.elim

theorem REnv.setW {G : Hp} {m : List Addr} {σ : L2.St} {env : Env} {i : Nat} {v : V} {w : W} (h : REnv K P G m σ env) (r : RepW K P G m v w) : REnv K P G m ((σ.set i none).set i (some v)) (env.set i (some w)) := by
  rw [List.set_set]
  exact h.set r
/-- the list that grows -/
structure Grows (K : PySem.W.Frag) (G0 : Hp) (m0 : List Addr) (H0 : Hp) (L : Addr) (G : Hp) (m : List Addr) (H : Hp) (acc : List D) : Prop where
  ext : Ext G0 m0 H0 G m H
  nG : G L = none
  nm : L ∉ m
  at_ : ∃ vs, H L = some (.lst vs) ∧ RepL K G vs acc
theorem Grows.go {G0 G G' H0 H H' : Hp} {m0 m m' : List Addr} {L : Addr} {acc : List D} (h : Grows K G0 m0 H0 L G m H acc) (x : Ext G m H G' m' H') : Grows K G0 m0 H0 L G' m' H' acc := by
  obtain ⟨vs, e, l⟩ := h.at_
  have hm' : L ∉ m' := fun hm => by
    rcases x.new L hm with q | q
    · exact h.nm q
    · rw [q] at e; cases e
  refine ⟨h.ext.trans x, ?_, hm', vs, x.fr L _ e h.nm, l.mono x.g⟩
  cases q : G' L with
  | none => rfl
  | some o =>
    rcases x.gn L (by rw [q]; simp) with z | z | z
    · exact absurd h.nG z
    · exact absurd z hm'
    · rw [z] at e; cases e
/-- one item more -/
theorem Grows.more {G0 G H0 H : Hp} {m0 m : List Addr} {st : Store} {L : Addr} {acc : List D} {d : D} {vs : List V} {v : V} (h : Grows K G0 m0 H0 L G m H acc) (n0 : H0 L = none) (hS : RS0 K P G m H st) (e : H L = some (.lst vs)) (l : RepL K G vs acc) (r : RepD K G v d) :
    RS0 K P G m (upd H L (.lst (vs ++ [v]))) st ∧ Grows K G0 m0 H0 L G m (upd H L (.lst (vs ++ [v]))) (acc ++ [d]) := by
  have oth : ∀ b u, b ≠ L → H b = some u → (upd H L (.lst (vs ++ [v]))) b = some u := fun b u hb hu => by rw [upd_ne hb]; exact hu
  refine ⟨⟨fun b u hb => oth b u (ne_of_none hb h.nG) (hS.sub b u hb), hS.len, hS.nd, fun a ha => ?_, fun k a c ha hc => ?_⟩, ⟨⟨h.ext.g, h.ext.pre, h.ext.new, fun b u hb hm => ?_, fun b hb => ?_, h.ext.gn⟩, h.nG, h.nm, _, upd_same, l.append (.one r)⟩⟩
  · rw [upd_ne (fun z => h.nm (by rw [← z]; exact ha))]; exact hS.inH a ha
  · have hne : a ≠ L := fun z => h.nm (by rw [← z]; exact List.mem_of_getElem? ha)
    exact (hS.cell k a c ha hc).mono (GLe.refl G) (List.prefix_refl m) (fun u hu => oth a u hne hu) fun n => n
  · exact oth b u (ne_of_none hb n0) (h.ext.fr b u hb hm)
  · by_cases z : b = L
    · subst z; exact absurd n0 hb
    · rw [upd_ne z]; exact h.ext.th b hb
/-- the finished list: a new live cell, or frozen -/
theorem Grows.done {own : Bool} {G0 G H0 H : Hp} {m0 m : List Addr} {st : Store} {L : Addr} {acc : List D} {Q : VK} {E : Exc → Hp → Prop} (h : Grows K G0 m0 H0 L G m H acc) (n0 : H0 L = none) (hS : RS0 K P G m H st)
    (ho : OutG K P G0 m0 H0 (RepW K P) (newL own acc st) Q E) : Q (.ref L) H := by
  obtain ⟨vs, e, l⟩ := h.at_
  unfold newL at ho
  split at ho
  · split at ho
    · -- live
      have ext : Ext G0 m0 H0 G (m ++ [L]) H := ⟨h.ext.g, h.ext.pre.trans (List.prefix_append m [L]), fun b hb => by
        rcases List.mem_append.mp hb with q | q
        · exact h.ext.new b q
        · rw [List.mem_singleton] at q; subst q; exact .inr n0, h.ext.fr, h.ext.th, fun b hb => by
        rcases h.ext.gn b hb with q | q | q
        · exact .inl q
        · exact .inr (.inl (List.mem_append_left _ q))
        · exact .inr (.inr q)⟩
      refine ho G (m ++ [L]) H (.ref L) ext ⟨hS.sub, by simp [hS.len], ?_, fun a ha => ?_, fun k a c ha hc => ?_⟩ ⟨L, by rw [← hS.len, List.getElem?_append_right (Nat.le_refl _)]; simp, rfl⟩
      · rw [List.nodup_append]
        refine ⟨hS.nd, by simp, fun a ha b hb => ?_⟩
        rw [List.mem_singleton] at hb
        subst hb
        intro z
        subst z
        exact h.nm ha
      · rcases List.mem_append.mp ha with q | q
        · exact hS.inH a q
        · rw [List.mem_singleton] at q; subst q; rw [e]; simp
      · by_cases hk : k < m.length
        · rw [List.getElem?_append_left hk] at ha
          rw [List.getElem?_append_left (by rw [← hS.len]; exact hk)] at hc
          exact (hS.cell k a c ha hc).mono (GLe.refl G) (List.prefix_append m [L]) (fun u hu => hu) fun n => n
        · have hk' : k = m.length := by
            have := (List.getElem?_eq_some_iff.mp ha).1
            rw [List.length_append, List.length_singleton] at this
            omega
          subst hk'
          rw [List.getElem?_append_right (Nat.le_refl _)] at ha
          rw [hS.len, List.getElem?_append_right (Nat.le_refl _)] at hc
          simp at ha hc
          subst ha hc
          exact ⟨h.nG, vs, e, l⟩
    · have g : GLe G (upd G L (.lst vs)) := fun b u hb => by rw [upd_ne (ne_of_none hb h.nG)]; exact hb
      have ext : Ext G0 m0 H0 (upd G L (.lst vs)) m H := ⟨h.ext.g.trans g, h.ext.pre, h.ext.new, h.ext.fr, h.ext.th, fun b hb => by
        by_cases z : b = L
        · subst z; exact .inr (.inr n0)
        · rw [upd_ne z] at hb; exact h.ext.gn b hb⟩
      refine ho (upd G L (.lst vs)) m H (.ref L) ext ⟨fun b u hb => ?_, hS.len, hS.nd, hS.inH, fun k a c ha hc => ?_⟩ (.lst upd_same (l.mono g))
      · by_cases z : b = L
        · subst z; rw [upd_same] at hb; cases hb; exact e
        · rw [upd_ne z] at hb; exact hS.sub b u hb
      · have hne : a ≠ L := fun z => h.nm (by rw [← z]; exact List.mem_of_getElem? ha)
        exact (hS.cell k a c ha hc).mono g (List.prefix_refl m) (fun u hu => hu) fun n => by rw [upd_ne hne]; exact n
  · exact ho.elim
/-- no error leaves a comprehension -/
def noX : WX := fun _ _ _ _ => False
theorem lc_ok {own : Bool} {fi : M (List D)} {i : Nat} {fc : M Bool} {fe : M W} {σ : L2.St} {H : Hp} {Q : VK} (h : rE K P Wx (lcM own fi i fc fe) σ H Q) :
    tLc (rdG K P Wx (fun G _ J xs => Walks K G J xs) fi) (gName i) (rT K P noX fc) (rE K P noX fe) [i] σ H Q := by
  obtain ⟨G, m, env, st, hE, hS, ho⟩ := h
  refine goG hE hS ho fun G1 m1 H1 J xs st1 x1 e1 s1 w1 o1 => ?_
  intro L hL
  -- the invariant: the rest of the loop gives what is wanted
  refine ⟨fun j n H' => n = xs.length - j ∧ j ≤ xs.length ∧ ∃ G2 m2 st2 acc, Grows K G1 m1 H1 L G2 m2 H' acc ∧ RS0 K P G2 m2 H' st2 ∧
    OutG K P G1 m1 H1 (RepW K P) ((lcLoop i fc fe (xs.drop j) acc env st2).bind fun ys s2 => newL own ys s2) Q (fun _ _ => True), ⟨xs.length, by simp, Nat.zero_le _, G1, m1, st1, [], ?_, ?_, ?_⟩, ?_⟩
  · obtain ⟨s2, x2⟩ := s1.grow (o := .lst []) hL
    exact ⟨x2, s1.freshG hL, s1.fresh_not_mem hL, [], upd_same, .nil⟩
  · exact (s1.grow hL).1
  · rw [List.drop_zero]
    cases q : (lcLoop i fc fe xs [] env st1).bind fun ys s2 => newL own ys s2 with
    | ok a s => rw [q] at o1; exact o1
    | err c s => exact fun _ _ _ _ _ => trivial
    | stuck => rw [q] at o1; exact o1
  · rintro j n H' ⟨rfl, hj, G2, m2, st2, acc, gr, s2, o2⟩
    have hsub : ∀ a o, G1 a = some o → H' a = some o := fun a o q => s2.sub a o (gr.ext.g a o q)
    by_cases hlt : j < xs.length
    · have hd : xs.drop j = xs[j] :: xs.drop (j + 1) := List.drop_eq_getElem_cons hlt
      rw [hd] at o2
      refine .inr ⟨w1.go j H' hsub hlt, fun H'' => j + 1 ≤ xs.length ∧ ∃ G2 m2 st2 acc, Grows K G1 m1 H1 L G2 m2 H'' acc ∧ RS0 K P G2 m2 H'' st2 ∧
        OutG K P G1 m1 H1 (RepW K P) ((lcLoop i fc fe (xs.drop (j + 1)) acc env st2).bind fun ys s2 => newL own ys s2) Q (fun _ _ => True), fun H'' q => ⟨xs.length - (j + 1), by omega, rfl, q⟩, fun x H'' hy => ?_⟩
      -- the item: frozen data
      obtain ⟨G3, s3, gr3, rx⟩ : ∃ G3, RS0 K P G3 m2 H'' st2 ∧ Grows K G1 m1 H1 L G3 m2 H'' acc ∧ RepD K G3 x xs[j] := by
        rcases w1.yld j H' x H'' xs[j] hsub (List.getElem?_eq_getElem hlt) hy with ⟨rfl, r⟩ | ⟨T, vs, ds, rfl, hT, rfl, ed, r⟩
        · exact ⟨G2, s2, gr, r.mono gr.ext.g⟩
        · obtain ⟨s3, x3⟩ := s2.newD (o := .tup vs) hT
          refine ⟨_, s3, gr.go x3, ?_⟩
          rw [ed]
          exact .tup (SqT.of upd_same) (r.mono (gr.ext.g.trans x3.g))
      have e3 : REnv K P G3 m2 ((σ.set i none).set i (some x)) (env.set i (some (.d xs[j]))) := (e1.mono gr3.ext.g gr3.ext.pre).setW rx
      have o3 : OutG K P G3 m2 H'' (RepW K P) (((noErr (fc (env.set i (some (.d xs[j]))) st2)).bind fun b s1 =>
        if b = true then (noErr (fe (env.set i (some (.d xs[j]))) s1)).bind fun w s2 => (toD w s2).bind fun d s3 => if acc.length < sizeLine then lcLoop i fc fe (xs.drop (j + 1)) (acc ++ [d]) env s3 else .stuck
        else lcLoop i fc fe (xs.drop (j + 1)) acc env s1).bind fun ys s2 => newL own ys s2) Q (fun _ _ => True) := OutG.shift o2 gr3.ext
      refine ⟨by show ((σ.set i none).set i (some x)).set i none = σ.set i none; rw [List.set_set, List.set_set], ?_⟩
      -- back to the start's point of view
      have back : ∀ {r : Res W}, OutG K P G3 m2 H'' (RepW K P) r Q (fun _ _ => True) → (r = (lcLoop i fc fe (xs.drop j) acc env st2).bind fun ys s2 => newL own ys s2) → OutG K P G1 m1 H1 (RepW K P) r Q (fun _ _ => True) := fun {r} _ e => by
        rw [e, hd]; exact o2
      cases q : fc (env.set i (some (.d xs[j]))) st2 with
      | err c s => rw [q] at o3; exact o3.elim
      | stuck => rw [q] at o3; exact o3.elim
      | ok b st3 =>
        refine ⟨G3, m2, _, st2, e3, s3, ?_⟩
        rw [q]
        intro G4 m4 H4 b' x4 s4 eb
        have eb' : b' = b := eb
        subst eb'
        rw [q, noErr_ok, Res.bind_ok] at o3
        have o2' : OutG K P G1 m1 H1 (RepW K P) ((if b' = true then (noErr (fe (env.set i (some (.d xs[j]))) st3)).bind fun w s2 => (toD w s2).bind fun d s3 => if acc.length < sizeLine then lcLoop i fc fe (xs.drop (j + 1)) (acc ++ [d]) env s3 else .stuck
          else lcLoop i fc fe (xs.drop (j + 1)) acc env st3).bind fun ys s2 => newL own ys s2) Q (fun _ _ => True) := by
          have z := o2
          unfold lcLoop at z
          rw [q] at z
          exact z
        cases b' with
        | false => exact ⟨hlt, G4, m4, st3, acc, gr3.go x4, s4, o2'⟩
        | true =>
          rw [if_pos rfl] at o2' ⊢
          cases q2 : fe (env.set i (some (.d xs[j]))) st3 with
          | err c s => rw [q2] at o2'; exact o2'.elim
          | stuck => rw [q2] at o2'; exact o2'.elim
          | ok w st4 =>
            refine ⟨G4, m4, _, st3, e3.mono x4.g x4.pre, s4, ?_⟩
            rw [q2]
            intro G5 m5 H5 y x5 s5 ry
            rw [q2, noErr_ok, Res.bind_ok] at o2'
            unfold toD at o2'
            cases q3 : asD st4 w with
            | none => rw [q3] at o2'; exact o2'.elim
            | some d =>
              rw [q3] at o2'
              simp only [Res.bind_ok] at o2'
              obtain ⟨G6, s6, x6, rd⟩ := s5.toD ry q3
              have gr6 := ((gr3.go x4).go x5).go x6
              obtain ⟨vs, ev, l⟩ := gr6.at_
              by_cases hz : acc.length < sizeLine
              · rw [if_pos hz] at o2'
                obtain ⟨s7, gr7⟩ := gr6.more hL s6 ev l rd
                exact ⟨vs, ev, by rw [l.length]; exact hz, hlt, G6, m5, _, acc ++ [d], gr7, s7, o2'⟩
              · rw [if_neg hz] at o2'; exact o2'.elim
    · have hj' : j = xs.length := by omega
      subst hj'
      rw [List.drop_length] at o2
      exact .inl ⟨w1.stop _ H' hsub (Nat.le_refl _), gr.done hL s2 o2⟩
end
end Py

namespace Py
open PySem L2 PySem.Spec PyProof.Rows
section
variable {X : Cx} {P : Pm} {Wx : WX} {a b c e : Expr} {es : List Expr} {fa fb fc fe : M W} {fs : M (List W)} {pos p : Pos} {K : PySem.W.Frag} {tg iter elt : Expr} {ifs : List Expr} {scope : Scope} {fi : M (List D)} {ft : M Bool}
theorem spts_nil : PTs X [] (rT X.K P noX yesT) := ⟨fun pins s σ H Q I ⟨G, m, env, st, hE, hS, ho⟩ => pts_nil.run pins s σ H Q I (ho G m H true .refl hS rfl)⟩
theorem spts_one (h : ST X P noX c ft) : PTs X [c] (rT X.K P noX ft) := pts_one h
theorem se_lc (own : Bool) {x : Str} {i : Nat} (hc : X.calm = true) (hN : X.N.Nodup) (hi : SI X P Wx tg iter fi) (ok : BlkOk X.N X.env.scope scope [(x, i)])
    (hg : ∀ (s : Shared) (H : Hp) (C : Addr) (cl : List (Str × Addr)) (fp : List Addr), PG (X.blk s H scope (compEnvC scope cl C X.env) fp) tg (gName i))
    (ht : ∀ (s : Shared) (H : Hp) (C : Addr) (cl : List (Str × Addr)) (fp : List Addr), PTs (X.blk s H scope (compEnvC scope cl C X.env) fp) ifs (rT X.K P noX ft))
    (he : ∀ (s : Shared) (H : Hp) (C : Addr) (cl : List (Str × Addr)) (fp : List Addr), SE (X.blk s H scope (compEnvC scope cl C X.env) fp) P noX elt fe) (hs : ∀ x, foldedSetIterable iter X.env x = pure x := by intro _; rfl) :
    SE X P Wx (.ListComp elt [⟨tg, iter, ifs, 0⟩] scope pos) (lcM own fi i ft fe) :=
  conv (pe_lc (own := [(x, i)]) hc hN hi ok hg ht he hs) fun σ H Q h => lc_ok h

/-! ### statements -/
abbrev SS (X : Cx) (P : Pm) (Wx : WX) (s : Stmt) (f : MS) : Prop := PS X s (rS X.K P Wx f)
abbrev SSs (X : Cx) (P : Pm) (Wx : WX) (s : List Stmt) (f : MS) : Prop := PSs X s (rS X.K P Wx f)
theorem convS {s : Stmt} {t t' : TS} (h : PS X s t) (c : ∀ D σ H, t' D σ H → t D σ H) : PS X s t' := ⟨fun pins s σ H D I q => h.run pins s σ H D I (c D σ H q)⟩
theorem convSs {s : List Stmt} {t t' : TS} (h : PSs X s t) (c : ∀ D σ H, t' D σ H → t D σ H) : PSs X s t' := ⟨fun pins s σ H D I q => h.run pins s σ H D I (c D σ H q)⟩
variable {s : Stmt} {rest body : List Stmt} {f g : MS}
theorem sss_nil : SSs X P Wx [] passS := convSs pss_nil fun D σ H ⟨G, m, env, st, hE, hS, ho⟩ => ho G m σ H .refl hE hS
theorem seq_ok {G : Hp} {m : List Addr} {H : Hp} {st : Store} {σ : L2.St} {env : Env} {D : Ends} (hE : REnv K P G m σ env) (hS : RS0 K P G m H st) (ho : OutS K P Wx G m H (seqM f g env st) D) : tSeq (rS K P Wx f) (rS K P Wx g) D σ H := by
  refine ⟨G, m, env, st, hE, hS, ?_⟩
  unfold seqM at ho
  cases q : f env st with
  | nx env' st' =>
    rw [q] at ho
    exact fun G' m' σ' H' x e s => ⟨G', m', env', st', e, s, OutS.shift ho x⟩
  | ret w st' => rw [q] at ho; exact ho
  | err c env' st' => rw [q] at ho; exact ho
  | stuck => rw [q] at ho; exact ho
theorem sss_cons (h1 : SS X P Wx s f) (h2 : SSs X P Wx rest g) : SSs X P Wx (s :: rest) (seqM f g) := convSs (pss_cons h1 h2) fun D σ H ⟨G, m, env, st, hE, hS, ho⟩ => seq_ok hE hS ho
theorem sss_one (h1 : SS X P Wx s f) : SSs X P Wx [s] f := pss_one h1
theorem ss_exp (he : SE X P Wx e fe) (hs : swapsWith e none pos.line X.env = pure false := by rfl) : SS X P Wx (.Expr e pos) (expM fe) :=
  convS (ps_expr he hs) fun D σ H ⟨G, m, env, st, hE, hS, ho⟩ => goS hE hS ho fun G1 m1 H1 v w st1 x1 e1 s1 r1 o1 => o1 G1 m1 σ H1 .refl e1 s1
theorem ss_ret (he : SE X P Wx e fe) : SS X P Wx (.Return (some e) pos) (retM fe) :=
  convS (ps_ret he) fun D σ H ⟨G, m, env, st, hE, hS, ho⟩ => goS hE hS ho fun G1 m1 H1 v w st1 x1 e1 s1 r1 o1 => o1 G1 m1 H1 v .refl s1 r1
theorem ss_if {tb fb' : List Stmt} (hc : ST X P Wx c ft) (ha : SSs X P Wx tb f) (hb : SSs X P Wx fb' g) : SS X P Wx (.If c tb fb' pos) (ifM ft f g) :=
  convS (ps_if hc ha hb) fun D σ H ⟨G, m, env, st, hE, hS, ho⟩ => goS hE hS ho fun G1 m1 H1 v w st1 x1 e1 s1 r1 o1 => by
    have r1' : v = w := r1
    subst r1'
    cases v with
    | true => exact ⟨G1, m1, env, st1, e1, s1, o1⟩
    | false => exact ⟨G1, m1, env, st1, e1, s1, o1⟩
theorem ss_asg {i : Nat} {x : Str} {p' : Pos} (hN : X.N.Nodup) (hi : X.N[i]? = some x) (hx : Loc X.env.scope x) (he : SE X P Wx e fe) (hs : swapsWith e (some (.Name x p')) pos.line X.env = pure false := by rfl)
    (hf : X.fn x = true ∨ X.env.scope.names.lookup x = some .local := by first | exact .inl rfl | exact .inr rfl | assumption) : SS X P Wx (.Assign [.Name x p'] e pos) (asgM i fe) :=
  convS (ps_set hN hi hx he hs hf) fun D σ H ⟨G, m, env, st, hE, hS, ho⟩ => goS hE hS ho fun G1 m1 H1 v w st1 x1 e1 s1 r1 o1 => o1 G1 m1 _ H1 .refl (e1.set r1) s1
theorem ss_asgLc (own : Bool) {x y : Str} {i iy : Nat} {py : Pos} {spos : Pos} (hc : X.calm = true) (hN : X.N.Nodup) (hy : X.N[iy]? = some y) (hyl : X.env.scope.names.lookup y = some .local)
    (hsw : swapsWith (.ListComp elt [⟨tg, iter, ifs, 0⟩] scope pos) (some (.Name y py)) spos.line X.env = pure true) (hi : SI X P Wx tg iter fi) (ok : BlkOk X.N X.env.scope scope [(x, i)])
    (hg : ∀ (s : Shared) (H : Hp) (C : Addr) (cl : List (Str × Addr)) (fp : List Addr), PG (X.blk s H scope (compEnvC scope cl C X.env) fp) tg (gName i))
    (ht : ∀ (s : Shared) (H : Hp) (C : Addr) (cl : List (Str × Addr)) (fp : List Addr), PTs (X.blk s H scope (compEnvC scope cl C X.env) fp) ifs (rT X.K P noX ft))
    (he : ∀ (s : Shared) (H : Hp) (C : Addr) (cl : List (Str × Addr)) (fp : List Addr), SE (X.blk s H scope (compEnvC scope cl C X.env) fp) P noX elt fe) (hs : ∀ x, foldedSetIterable iter X.env x = pure x := by intro _; rfl) :
    SS X P Wx (.Assign [.Name y py] (.ListComp elt [⟨tg, iter, ifs, 0⟩] scope pos) spos) (asgM iy (lcM own fi i ft fe)) :=
  convS (ps_setLc (own := [(x, i)]) hc hN hy hyl hsw hi ok hg ht he hs) fun D σ H ⟨G, m, env, st, hE, hS, ho⟩ =>
    lc_ok (Wx := Wx) (goS hE hS ho fun G1 m1 H1 v w st1 x1 e1 s1 r1 o1 => o1 G1 m1 _ H1 .refl (e1.set r1) s1)
/-- targets: names -/
inductive STg (X : Cx) : List Expr → List Nat → Prop
  | nil : STg X [] []
  | cons {x : Str} {i : Nat} {pp : Pos} {ts : List Expr} {is : List Nat} (hi : X.N[i]? = some x) (hx : Loc X.env.scope x) (hf : X.fn x = true ∨ X.env.scope.names.lookup x = some .local) (hs : (assignEach (.Name x pp :: ts) X.env).map (·.2) = assign (.Name x pp) X.env :: (assignEach ts X.env).map (·.2)) (r : STg X ts is) : STg X (.Name x pp :: ts) (i :: is)
def gNames : List Nat → TGs
  | [] => gNil
  | i :: is => gCons (gName i) (gNames is)
theorem STg.pgs (hN : X.N.Nodup) {ts : List Expr} {is : List Nat} (h : STg X ts is) : PGs X ts (gNames is) := by
  induction h with
  | nil => exact pgs_nil
  | cons hi hx hf hs r ih => exact pgs_cons (pg_name hN hi hx hf) ih hs
theorem sets_ok {G : Hp} {m : List Addr} {H : Hp} {Q : L2.St → Hp → Prop} : ∀ {is : List Nat} {vs : List V} {xs : List D} {σ : L2.St} {env env' : Env}, REnv K P G m σ env → RepL K G vs xs → sets is xs env = some env' → (∀ σ', REnv K P G m σ' env' → Q σ' H) → gNames is vs σ H Q
  | [], _, _, σ, env, env', hE, .nil, e, k => ⟨rfl, k σ (by cases e; exact hE)⟩
  | [], _, _, _, _, _, _, .cons _ _, e, _ => by cases e
  | _ :: _, _, _, _, _, _, _, .nil, e, _ => by cases e
  | i :: is, _, _, σ, env, env', hE, .cons (d := d) r l, e, k => ⟨_, _, rfl, sets_ok (hE.set (w := .d d) r) l e k⟩
theorem ss_asgT {ts : List Expr} {is : List Nat} {k : Nat} {pt : Pos} (hc : X.calm = true) (hN : X.N.Nodup) (ht : STg X ts is) (he : SE X P Wx e fe) (hn : (assignEach ts X.env).length = is.length := by rfl) (hst : (assignEach ts X.env).findIdx? (·.1) = none := by rfl)
    (hs : swapsWithSole [.Tuple ts k pt] e pos.line X.env = pure false := by rfl) (hw : swappedStores [.Tuple ts k pt] e X.env = pure none := by rfl)
    (h1 : (assignEach [.Tuple ts k pt] X.env).map (·.2) = [assign (.Tuple ts k pt) X.env] := by rfl) : SS X P Wx (.Assign [.Tuple ts k pt] e pos) (asgTM is fe) :=
  convS (ps_asg he (pg_tup hc (ht.pgs hN) hn hst) hs hw h1) fun D σ H ⟨G, m, env, st, hE, hS, ho⟩ => goS hE hS ho fun G1 m1 H1 v w st1 x1 e1 s1 r1 o1 => by
    split at o1
    · rename_i xs e2
      obtain ⟨q, vs, rfl, hq, l⟩ := view_tup s1 r1 e2
      split at o1
      · rename_i env' he'
        have hlen : ∀ {is : List Nat} {xs : List Py.D} {env env' : Env}, sets is xs env = some env' → xs.length = is.length := by
          intro is
          induction is with
          | nil => intro xs env env' h; cases xs with
            | nil => rfl
            | cons _ _ => cases h
          | cons i is ih => intro xs env env' h; cases xs with
            | nil => cases h
            | cons x xs => exact congrArg (· + 1) (ih h)
        exact ⟨q, vs, rfl, s1.sqT hq, by rw [l.length]; exact hlen he', sets_ok e1 l he' fun σ' e3 => o1 G1 m1 σ' H1 .refl e3 s1⟩
      · exact o1.elim
    · exact o1.elim

theorem toDS_cases {α : Type} {G : Hp} {m : List Addr} {H : Hp} {st : Store} {v : V} {w : W} {env : Env} {k : D → Store → RS} {D : Ends} (hS : RS0 K P G m H st) (r : RepW K P G m v w)
    (ho : OutS K P Wx G m H (bindS (toD w st) env k) D) : ∃ G' d st', RS0 K P G' m H st' ∧ Ext G m H G' m H ∧ RepD K G' v d ∧ OutS K P Wx G' m H (k d st') D := by
  unfold toD at ho
  cases q : asD st w with
  | none => rw [q] at ho; exact ho.elim
  | some d =>
    rw [q] at ho
    obtain ⟨G', s1, x1, rd⟩ := hS.toD r q
    exact ⟨G', d, _, s1, x1, rd, OutS.shift ho x1⟩
/-- x[i] = v, a list -/
theorem ss_setL {q : Pos} (ha : SE X P Wx a fa) (hb : SE X P Wx b fb) (he : SE X P Wx e fe)
    (hs : swapsWithSole [.Subscript a b q] e pos.line X.env = pure false := by rfl) (hw : swappedStores [.Subscript a b q] e X.env = pure none := by rfl) (h1 : (assignEach [.Subscript a b q] X.env).map (·.2) = [assign (.Subscript a b q) X.env] := by rfl)
    (hu : ∀ v, assign (.Subscript a b q) X.env v = (do
      let ov ← holding [v] (eval a X.env)
      let iv ← holding [v, ov] (eval b X.env)
      standAt q
      holding [v, ov, iv] (setItem ov iv v)
      release [v, ov, iv] []) := by intro _; rfl) : SS X P Wx (.Assign [.Subscript a b q] e pos) (setLM fa fb fe) :=
  convS (ps_asg he (pg_sub ha hb set_list hu) hs hw h1) fun D σ H ⟨G, m, env, st, hE, hS, ho⟩ => goS hE hS ho fun G1 m1 H1 v w st1 x1 e1 s1 r1 o1 => goS e1 s1 o1 fun G2 m2 H2 v2 w2 st2 x2 e2 s2 r2 o2 => goS e2 s2 o2 fun G3 m3 H3 v3 w3 st3 x3 e3 s3 r3 o3 => by
    obtain ⟨G4, d, st4, s4, x4, rd, o4⟩ := toDS_cases (α := Unit) s3 ((r1.mono x2.g x2.pre).mono x3.g x3.pre) o3
    split at o4
    · rename_i k
      split at o4
      · rename_i xs j hk hj
        obtain ⟨q', vs, rfl, hp, hn, hh, l⟩ := live_lst s4 ((r2.mono x3.g x3.pre).mono x4.g x4.pre) hk
        have ei := view_int s4 (r3.mono x4.g x4.pre) hj
        subst ei
        split at o4
        · rename_i n hn'
          refine ⟨q', vs, j, n, rfl, rfl, hh, by rw [l.length]; exact hn', ?_⟩
          have hc : CellOk X.K P G4 m3 (upd H3 q' (.lst (vs.set n v))) q' (.lst (xs.set n d)) := ⟨hn, _, upd_same, l.set rd n⟩
          obtain ⟨s5, x5⟩ := s4.write hp hn hc
          exact o4 G4 m3 σ _ x5 (e3.mono (x4.g.trans x5.g) (x4.pre.trans x5.pre)) s5
        · exact o4.elim
      · exact o4.elim
    · exact o4.elim
theorem ss_setD {q : Pos} (hu : X.A.units + 1 < cLine) (ha : SE X P Wx a fa) (hb : SE X P Wx b fb) (he : SE X P Wx e fe) (hs : swapsWith e (some (.Subscript a b q)) pos.line X.env = pure false := by rfl) : SS X P Wx (.Assign [.Subscript a b q] e pos) (setDM fa fb fe) :=
  convS (ps_dput hu ha hb he hs) fun D σ H ⟨G, m, env, st, hE, hS, ho⟩ => goS hE hS ho fun G1 m1 H1 v w st1 x1 e1 s1 r1 o1 => goS e1 s1 o1 fun G2 m2 H2 v2 w2 st2 x2 e2 s2 r2 o2 => goS e2 s2 o2 fun G3 m3 H3 v3 w3 st3 x3 e3 s3 r3 o3 => by
    obtain ⟨G4, d, st4, s4, x4, rd, o4⟩ := toDS_cases (α := Unit) s3 ((r1.mono x2.g x2.pre).mono x3.g x3.pre) o3
    split at o4
    · rename_i k
      split at o4
      · rename_i kvs s' hk hj
        obtain ⟨q', vs, rfl, hp, hn, hh, l⟩ := live_dct s4 ((r2.mono x3.g x3.pre).mono x4.g x4.pre) hk
        have ei := view_str s4 (r3.mono x4.g x4.pre) hj
        subst ei
        split at o4
        · rename_i hz
          refine ⟨q', _, rfl, .inl ⟨vs, .inr s', hh, rfl, by rw [l.length]; exact hz, rfl⟩, ?_⟩
          have hc : CellOk X.K P G4 m3 (upd H3 q' (.dK (putK vs (.inr s') v))) q' (.dct (putD kvs s' d)) := ⟨hn, _, upd_same, l.put rd⟩
          obtain ⟨s5, x5⟩ := s4.write hp hn hc
          exact o4 G4 m3 σ _ x5 (e3.mono (x4.g.trans x5.g) (x4.pre.trans x5.pre)) s5
        · exact o4.elim
      · exact o4.elim
    · exact o4.elim
/-! ### loops -/
/-- a loop's target -/
inductive SGt (X : Cx) (P : Pm) : Expr → Tgt → Prop
  | name {x : Str} {i : Nat} {pp : Pos} (hN : X.N.Nodup) (hi : X.N[i]? = some x) (hx : Loc X.env.scope x) (hf : X.fn x = true ∨ X.env.scope.names.lookup x = some .local) : SGt X P (.Name x pp) (.name i)
  | pair {x y : Str} {i j k : Nat} {px py pt : Pos} (hc : X.calm = true) (hN : X.N.Nodup) (h : STg X [.Name x px, .Name y py] [i, j]) (hn : (assignEach [.Name x px, .Name y py] X.env).length = 2) (hst : (assignEach [.Name x px, .Name y py] X.env).findIdx? (·.1) = none) : SGt X P (.Tuple [.Name x px, .Name y py] k pt) (.pair i j)
def gT (K : PySem.W.Frag) : Tgt → TG
  | .name i => gName i
  | .pair i j => gTup K 2 (gNames [i, j])
theorem SGt.pg {t : Tgt} (h : SGt X P tg t) : PG X tg (gT X.K t) := by
  cases h with
  | name hN hi hx hf => exact pg_name hN hi hx hf
  | pair hc hN h hn hst => exact pg_tup hc (h.pgs hN) hn hst
theorem gT_ok {t : Tgt} {G : Hp} {m : List Addr} {H : Hp} {st : Store} {σ : L2.St} {env env' : Env} {x : V} {d : D} {Q : L2.St → Hp → Prop} (hE : REnv K P G m σ env) (hS : RS0 K P G m H st) (r : RepD K G x d) (e : setT t d env = some env') (k : ∀ σ', REnv K P G m σ' env' → Q σ' H) : gT K t x σ H Q := by
  cases t with
  | name i =>
    cases e
    exact k _ (hE.set (w := .d d) r)
  | pair i j =>
    unfold setT at e
    simp only at e
    split at e
    · rename_i u w
      cases e
      cases r with
      | tup h l =>
        refine ⟨_, _, rfl, hS.sqT h, by rw [l.length]; rfl, sets_ok hE l rfl k⟩
    · cases e
theorem for_ok {t : Tgt} {D : Ends} {σ : L2.St} {H : Hp} (h : rS K P Wx (forM fi t f) D σ H) : tFor (rdG K P Wx (fun G _ J xs => Walks K G J xs) fi) (gT K t) (rS K P Wx f) D σ H := by
  obtain ⟨G, m, env, st, hE, hS, ho⟩ := h
  refine goS hE hS ho fun G1 m1 H1 J xs st1 x1 e1 s1 w1 o1 => ?_
  refine ⟨fun j n σ' H' => n = xs.length - j ∧ j ≤ xs.length ∧ ∃ G2 m2 env2 st2, Ext G1 m1 H1 G2 m2 H' ∧ REnv K P G2 m2 σ' env2 ∧ RS0 K P G2 m2 H' st2 ∧ OutS K P Wx G2 m2 H' (loopS t f (xs.drop j) env2 st2) D, ⟨xs.length, by simp, Nat.zero_le _, G1, m1, env, st1, .refl, e1, s1, by rw [List.drop_zero]; exact o1⟩, ?_⟩
  rintro j n σ' H' ⟨rfl, hj, G2, m2, env2, st2, x2, e2, s2, o2⟩
  have hsub : ∀ a o, G1 a = some o → H' a = some o := fun a o q => s2.sub a o (x2.g a o q)
  by_cases hlt : j < xs.length
  · have hd : xs.drop j = xs[j] :: xs.drop (j + 1) := List.drop_eq_getElem_cons hlt
    rw [hd] at o2
    refine .inr ⟨w1.go j H' hsub hlt, fun σ'' H'' => j + 1 ≤ xs.length ∧ ∃ G2 m2 env2 st2, Ext G1 m1 H1 G2 m2 H'' ∧ REnv K P G2 m2 σ'' env2 ∧ RS0 K P G2 m2 H'' st2 ∧ OutS K P Wx G2 m2 H'' (loopS t f (xs.drop (j + 1)) env2 st2) D, fun σ'' H'' q => ⟨xs.length - (j + 1), by omega, rfl, q⟩, fun x H'' hy => ?_⟩
    obtain ⟨G3, s3, x3, rx⟩ : ∃ G3, RS0 K P G3 m2 H'' st2 ∧ Ext G2 m2 H' G3 m2 H'' ∧ RepD K G3 x xs[j] := by
      rcases w1.yld j H' x H'' xs[j] hsub (List.getElem?_eq_getElem hlt) hy with ⟨rfl, r⟩ | ⟨T, vs, ds, rfl, hT, rfl, ed, r⟩
      · exact ⟨G2, s2, .refl, r.mono x2.g⟩
      · obtain ⟨s3, x3⟩ := s2.newD (o := .tup vs) hT
        refine ⟨_, s3, x3, ?_⟩
        rw [ed]
        exact .tup (SqT.of upd_same) (r.mono (x2.g.trans x3.g))
    replace o2 := OutS.shift o2 x3
    unfold loopS at o2
    split at o2
    · rename_i env3 he
      refine gT_ok (e2.mono x3.g x3.pre) s3 rx he fun σ3 e3 => ⟨G3, m2, env3, st2, e3, s3, ?_⟩
      cases q : f env3 st2 with
      | nx env' st' =>
        rw [q] at o2
        exact fun G4 m4 σ4 H4 x4 e4 s4 => ⟨hlt, G4, m4, env', st', (x2.trans x3).trans x4, e4, s4, OutS.shift o2 x4⟩
      | ret w st' => rw [q] at o2; exact o2
      | err c env' st' => rw [q] at o2; exact o2
      | stuck => rw [q] at o2; exact o2
    · exact o2.elim
  · have hj' : j = xs.length := by omega
    subst hj'
    rw [List.drop_length] at o2
    exact .inl ⟨w1.stop _ H' hsub (Nat.le_refl _), o2 G2 m2 σ' H' .refl e2 s2⟩
theorem ss_for {t : Tgt} (hp : PassesOwn (model X.prog X.w) X.A X.env X.xe) (hc : X.calm = true) (hi : SI X P Wx tg iter fi) (hg : SGt X P tg t) (hb : SSs X P Wx body f) (hs : ∀ x, foldedSetIterable iter X.env x = pure x := by intro _; rfl) : SS X P Wx (.For tg iter body [] pos) (forM fi t f) :=
  convS (ps_for hp hc hi hg.pg hb hs) fun D σ H h => for_ok h
theorem while_ok {N : Nat} {D : Ends} {σ : L2.St} {H : Hp} (h : rS K P Wx (whileM ft f N) D σ H) : tWhile (rT K P Wx ft) (rS K P Wx f) D σ H := by
  refine ⟨fun n σ' H' => rS K P Wx (whileM ft f n) D σ' H', ⟨N, h⟩, ?_⟩
  rintro n σ' H' ⟨G, m, env, st, hE, hS, ho⟩
  cases n with
  | zero => exact ho.elim
  | succ n =>
    refine goS hE hS ho fun G1 m1 H1 v w st1 x1 e1 s1 r1 o1 => ?_
    have r1' : v = w := r1
    subst r1'
    cases v with
    | false => exact o1 G1 m1 σ' H1 .refl e1 s1
    | true =>
      refine ⟨fun σ'' H'' => rS K P Wx (whileM ft f n) D σ'' H'', fun σ'' H'' q => ⟨n, Nat.lt_succ_self n, q⟩, G1, m1, env, st1, e1, s1, ?_⟩
      rw [if_pos rfl] at o1
      cases q : f env st1 with
      | nx env' st' =>
        rw [q] at o1
        exact fun G4 m4 σ4 H4 x4 e4 s4 => ⟨G4, m4, env', st', e4, s4, OutS.shift o1 x4⟩
      | ret w st' => rw [q] at o1; exact o1
      | err c env' st' => rw [q] at o1; exact o1
      | stuck => rw [q] at o1; exact o1
theorem ss_while (N : Nat) (hp : PassesOwn (model X.prog X.w) X.A X.env X.xe) (hc : ST X P Wx c ft) (hb : SSs X P Wx body f) : SS X P Wx (.While c body [] pos) (whileM ft f N) := convS (ps_while hp hc hb) fun D σ H h => while_ok h
end
end Py

namespace Py
open PySem L2 PySem.Spec PyProof.Rows
/-! ### what a def promises -/
def spF (K : PySem.W.Frag) (P : Pm) (n : Nat) (F : Fn) : Sp := fun vs H Q E => vs.length = n ∧ ∃ G m ws st, RepWs K P.core G m vs ws ∧ RS0 K P.core G m H st ∧ OutG K P.core G m H (RepW K P.core) (F ws st) Q (fun c H' => E (.ref (P.EC c)) none H')
section
variable {K : PySem.W.Frag} {P : Pm}
theorem RepWs.length {G : Hp} {m : List Addr} {vs : List V} {ws : List W} (h : RepWs K P G m vs ws) : vs.length = ws.length := by
  induction h with
  | nil => rfl
  | cons _ _ ih => exact congrArg (· + 1) ih
theorem RepWs.env {G : Hp} {m : List Addr} {vs : List V} {ws : List W} (h : RepWs K P G m vs ws) (n : Nat) : REnv K P G m (vs.map some ++ List.replicate n none) (ws.map some ++ List.replicate n none) := by
  refine ⟨by simp [h.length], fun i w e => ?_⟩
  have hlt : i < ws.length := by
    by_cases hi : i < ws.length
    · exact hi
    · exfalso
      rw [List.getElem?_append_right (by rw [List.length_map]; omega)] at e
      rw [List.getElem?_replicate] at e
      split at e <;> cases e
  rw [List.getElem?_append_left (by rw [List.length_map]; exact hlt), List.getElem?_map] at e
  rw [List.getElem?_append_left (by rw [List.length_map, h.length]; exact hlt), List.getElem?_map]
  clear hlt
  induction h generalizing i with
  | nil => simp at e
  | @cons v vs w' ws r l ih =>
    cases i with
    | zero =>
      simp at e
      subst e
      exact ⟨v, rfl, r⟩
    | succ i =>
      obtain ⟨u, h1, h2⟩ := ih i (by simpa using e)
      exact ⟨u, by simpa using h1, h2⟩
theorem RepF.restrict {G G' : Hp} {m m' : List Addr} (p : m <+: m') : ∀ {vs vs' : List (Str × V)} {fs : List (Str × W)}, RepF K P G m vs fs → RepF K P G' m' vs' fs → RepF K P G' m vs' fs
  | _, _, _, .nil, .nil => .nil
  | _, _, _, .cons (w := w) r l, .cons r' l' => by
    refine .cons ?_ (RepF.restrict p l l')
    cases w with
    | d x => exact r'
    | exc => exact r'
    | c k =>
      obtain ⟨a, e, rfl⟩ := r
      obtain ⟨a', e', rfl⟩ := r'
      have := pre_get p e
      rw [e'] at this
      cases this
      exact ⟨_, e, rfl⟩
theorem RS0.trunc {G G' H H' : Hp} {m m' : List Addr} {st st' : Store} (hS : RS0 K P G m H st) (x : Ext G m H G' m' H') (s : RS0 K P G' m' H' st') (k : Kept st st') : RS0 K P G' m H' (st'.take st.length) ∧ Ext G m H G' m H' := by
  refine ⟨⟨s.sub, ?_, hS.nd, fun a ha => s.inH a (x.pre.subset ha), fun j a c ha hc => ?_⟩, ⟨x.g, List.prefix_refl m, fun _ h => .inl h, x.fr, x.th, fun b hb => ?_⟩⟩
  · rw [List.length_take, hS.len]
    have := k.1
    omega
  · have hj : j < st.length := by rw [← hS.len]; exact (List.getElem?_eq_some_iff.mp ha).1
    rw [List.getElem?_take_of_lt hj] at hc
    have z := s.cell j a c (pre_get x.pre ha) hc
    cases c with
    | lst xs => exact z
    | dct xs => exact z
    | frz d => exact z
    | obj fs =>
      obtain ⟨n, dx, vs, e, l⟩ := z
      obtain ⟨_, _, vs0, _, l0⟩ := hS.cell j a _ ha (k.2 j fs hj hc)
      exact ⟨n, dx, vs, e, RepF.restrict x.pre l0 l⟩
  · rcases x.gn b hb with h | h | h
    · exact .inl h
    · rcases x.new b h with q | q
      · exact .inr (.inl q)
      · exact .inr (.inr q)
    · exact .inr (.inr h)
theorem fin_ok {G G' H H' : Hp} {m m' : List Addr} {st st' : Store} {v : V} {w : W} {Q : VK} {E : Exc → Hp → Prop} (hS : RS0 K P.core G m H st) (x : Ext G m H G' m' H') (s : RS0 K P.core G' m' H' st') (r : RepW K P.core G' m' v w)
    (ho : OutG K P.core G m H (RepW K P.core) (fin st w st') Q E) : Q v H' := by
  unfold fin at ho
  split at ho
  · rename_i hk
    obtain ⟨s1, x1⟩ := hS.trunc x s hk
    cases w with
    | d y => exact ho G' m H' v x1 s1 r
    | exc => exact ho.elim
    | c k =>
      simp only at ho
      obtain ⟨a, ha, rfl⟩ := r
      split at ho
      · rename_i hlt
        exact ho G' m H' _ x1 s1 ⟨a, pre_self x.pre (by rw [hS.len]; exact hlt) ha, rfl⟩
      · rename_i hge
        have hnm : a ∉ m := fun hm => by
          obtain ⟨j, hj⟩ := List.mem_iff_getElem?.mp hm
          have h1 := pre_get x.pre hj
          obtain ⟨l1, e1⟩ := List.getElem?_eq_some_iff.mp h1
          obtain ⟨l2, e2⟩ := List.getElem?_eq_some_iff.mp ha
          have : j = k := (List.getElem_inj s.nd).mp (e1.trans e2.symm)
          subst this
          exact hge (by rw [← hS.len]; exact (List.getElem?_eq_some_iff.mp hj).1)
        have hnew : H a = none := (x.new a (List.mem_of_getElem? ha)).resolve_left hnm
        have keepL : ∀ (c : Cell), st'[k]? = some c → (∀ fs, c ≠ .obj fs) → RS0 K P.core G' (m ++ [a]) H' (st'.take st.length ++ [c]) ∧ Ext G m H G' (m ++ [a]) H' := fun c hc hno => by
          refine ⟨⟨s1.sub, by simp [s1.len], ?_, fun b hb => ?_, fun j b c' hb hc' => ?_⟩, ⟨x1.g, List.prefix_append m [a], fun b hb => ?_, x1.fr, x1.th, fun b hb => ?_⟩⟩
          · rw [List.nodup_append]
            refine ⟨hS.nd, by simp, fun b hb c hc => ?_⟩
            rw [List.mem_singleton] at hc
            subst hc
            intro z
            subst z
            exact hnm hb
          · rcases List.mem_append.mp hb with q | q
            · exact s1.inH b q
            · rw [List.mem_singleton] at q; subst q; exact s.inH b (List.mem_of_getElem? ha)
          · by_cases hj : j < m.length
            · rw [List.getElem?_append_left hj] at hb
              rw [List.getElem?_append_left (by rw [← s1.len]; exact hj)] at hc'
              exact (s1.cell j b c' hb hc').mono (GLe.refl G') (List.prefix_append m [a]) (fun u hu => hu) fun n => n
            · have hk' : j = m.length := by
                have := (List.getElem?_eq_some_iff.mp hb).1
                rw [List.length_append, List.length_singleton] at this
                omega
              subst hk'
              rw [List.getElem?_append_right (Nat.le_refl _)] at hb
              rw [s1.len, List.getElem?_append_right (Nat.le_refl _)] at hc'
              simp at hb hc'
              subst hb hc'
              have z := s.cell k _ _ ha hc
              cases c with
              | lst xs => exact z
              | dct xs => exact z
              | frz d => exact z
              | obj fs => exact absurd rfl (hno fs)
          · rcases List.mem_append.mp hb with q | q
            · exact .inl q
            · rw [List.mem_singleton] at q; subst q; exact .inr hnew
          · rcases x1.gn b hb with q | q | q
            · exact .inl q
            · exact .inr (.inl (List.mem_append_left _ q))
            · exact .inr (.inr q)
        have hget : (m ++ [a])[st.length]? = some a := by
          rw [← hS.len, List.getElem?_append_right (Nat.le_refl _)]
          simp
        split at ho
        · rename_i xs hc
          obtain ⟨s2, x2⟩ := keepL _ hc (fun fs z => nomatch z)
          exact ho G' (m ++ [a]) H' _ x2 s2 ⟨a, hget, rfl⟩
        · rename_i xs hc
          obtain ⟨s2, x2⟩ := keepL _ hc (fun fs z => nomatch z)
          exact ho G' (m ++ [a]) H' _ x2 s2 ⟨a, hget, rfl⟩
        · rename_i d hc
          exact ho G' m H' _ x1 s1 (s.cell k a _ ha hc)
        · exact ho.elim
  · exact ho.elim
theorem finE_ok {G G' H H' : Hp} {m m' : List Addr} {st st' : Store} {c : Exc} {Q : VK} {E : Exc → Hp → Prop} (hS : RS0 K P.core G m H st) (x : Ext G m H G' m' H') (s : RS0 K P.core G' m' H' st')
    (ho : OutG K P.core G m H (RepW K P.core) (finE st c st') Q E) : E c H' := by
  unfold finE at ho
  split at ho
  · rename_i hk
    obtain ⟨s1, x1⟩ := hS.trunc x s hk
    exact ho G' m H' x1 s1
  · exact ho.elim
/-- a def's body keeps the promise -/
theorem body_fn {a : Nat} {N : List Str} {body : MS} {vs : List V} {H : Hp} {Q : VK} {E : XK} (h : spF K P a (fnM a N.length body) vs H Q E) : rS K P.core (fun cls d _ H' => E cls d H') body { nx := fun _ H' => Q .non H', rt := Q } (L2.start N vs) H := by
  obtain ⟨hl, G, m, ws, st, rw', hS, ho⟩ := h
  have hl' : ws.length = a := by rw [← rw'.length]; exact hl
  have ho' := ho
  unfold fnM at ho'
  rw [if_pos hl'] at ho'
  have es : L2.start N vs = vs.map some ++ List.replicate (N.length - a) none := by unfold L2.start; rw [hl]
  rw [es]
  refine ⟨G, m, _, st, rw'.env (N.length - a), hS, ?_⟩
  cases q : body (ws.map some ++ List.replicate (N.length - a) none) st with
  | nx env' st' => rw [q] at ho'; exact fun G' m' σ' H' x e s => fin_ok (P := P) (w := .d .non) hS x s (show RepD K G' _ _ from .non) ho'
  | ret w st' => rw [q] at ho'; exact fun G' m' H' v x s r => fin_ok (P := P) hS x s r ho'
  | err c env' st' => rw [q] at ho'; exact fun G' m' σ' H' x e s => finE_ok (P := P) hS x s ho'
  | stuck => rw [q] at ho'; exact ho'.elim
end

/-- the context of a def's body -/
abbrev Bx (P : Program) (w : World) (K : PySem.W.Frag) (mg : Str → Option Value) (base : Heap) (N : List Str) (qual : Str) (sc : Scope) (f : Addr) (cdv : Value) (A : Around) (outer : List PySem.Env) (s : Shared) (H : Hp) (E : XK) : Cx := cxOf (L2.CX P w) P w K mg base N qual sc f cdv A outer s H E
section
variable {Pg : Program} {w : World} {K : PySem.W.Frag} {mg : Str → Option Value} {base : Heap} {P : Pm}
/-- a def: its body's derivation is its promise -/
theorem okF {x qual : Str} {st : Stmt} {f : Addr} {fd : FuncData} {N ps : List Str} {k : Nat} {body : MS} {a n : Nat} (F : L2.Fun K x qual st f fd) (S : FnScope N ps (defScope st)) (ea : ps.length = a) (en : N.length = n) (hx : P.xa = none)
    (hb : ∀ (cdv : Value) (A : Around) (outer : List PySem.Env) (s : Shared) (H : Hp) (E : XK), Room k (A.deeper (envOfC qual (defScope st) s.heap.objs.size f cdv)) →
      Takes (Bx Pg w K mg base N qual (defScope st) f cdv A outer s H E) (fun cls d _ H' => E cls d H') → PassesOwn (model Pg w) (Bx Pg w K mg base N qual (defScope st) f cdv A outer s H E).A (Bx Pg w K mg base N qual (defScope st) f cdv A outer s H E).env (Bx Pg w K mg base N qual (defScope st) f cdv A outer s H E).xe →
      SSs (Bx Pg w K mg base N qual (defScope st) f cdv A outer s H E) P (fun cls d _ H' => E cls d H') (defBody st) body) : FnOk Pg w K mg base (L2.CX Pg w) (k + 1) f fd ps (spF K P a (fnM a n body)) := by
  subst ea en
  have hP : P.core = P := by
    cases P
    cases hx
    rfl
  refine F.okX S (fun vs H Q E h => h.1) (fun cdv A outer s H vs Q E hr h => ⟨_, hb cdv A outer s H E hr (takes_of rfl rfl rfl rfl) (passes_of rfl), ?_⟩)
  have z := body_fn h
  rw [hP] at z
  exact z
end

/-! ### calls -/
/-- a def that may be called by its name -/
structure Cal (Pg : Program) (w : World) (K : PySem.W.Frag) (mg : Str → Option Value) (base : Heap) (P : Pm) (x : Str) (n k : Nat) (F : Fn) : Prop where
  ex : ∃ f fd ps, FnOk Pg w K mg base (L2.CX Pg w) k f fd ps (spF K P n F) ∧ mg x = some (.ref f) ∧ PySem.W.keepIn K (.ref f) = true ∧ Binds K fd ps []
/-- what a def's meaning must bear -/
def Ar (n : Nat) (F : Fn) : Prop := ∀ ws st, F ws st ≠ .stuck → ws.length = n
theorem ar_fn {a n : Nat} {b : MS} : Ar a (fnM a n b) := fun ws st h => by
  unfold fnM at h
  split at h
  · assumption
  · exact absurd rfl h
section
variable {X : Cx} {P : Pm} {Wx : WX} {a b c e : Expr} {es : List Expr} {fa fb fc fe : M W} {fs : M (List W)} {pos p apos : Pos} {K : PySem.W.Frag} {n k : Nat} {F : Fn} {x m : Str} {f g : MS}
theorem RepF.toCore {G : Hp} {m : List Addr} {vs : List (Str × V)} {fs : List (Str × W)} (l : RepF K P G m vs fs) : RepF K P.core G m vs fs := by
  induction l with
  | nil => exact .nil
  | cons r _ ih => exact .cons r ih
theorem RepF.ofCore {G : Hp} {m : List Addr} {vs : List (Str × V)} {fs : List (Str × W)} (l : RepF K P.core G m vs fs) : RepF K P G m vs fs := by
  induction l with
  | nil => exact .nil
  | cons r _ ih => exact .cons r ih
theorem RS0.toCore {G : Hp} {m : List Addr} {H : Hp} {st : Store} (h : RS0 K P G m H st) : RS0 K P.core G m H st := ⟨h.sub, h.len, h.nd, h.inH, fun k a c ha hc => by
  have z := h.cell k a c ha hc
  cases c with
  | lst _ => exact z
  | dct _ => exact z
  | frz _ => exact z
  | obj fs =>
    obtain ⟨n, dx, vs, e, l⟩ := z
    exact ⟨n, dx, vs, e, l.toCore⟩⟩
theorem RS0.ofCore {G : Hp} {m : List Addr} {H : Hp} {st : Store} (h : RS0 K P.core G m H st) : RS0 K P G m H st := ⟨h.sub, h.len, h.nd, h.inH, fun k a c ha hc => by
  have z := h.cell k a c ha hc
  cases c with
  | lst _ => exact z
  | dct _ => exact z
  | frz _ => exact z
  | obj fs =>
    obtain ⟨n, dx, vs, e, l⟩ := z
    exact ⟨n, dx, vs, e, l.ofCore⟩⟩
theorem out_core {G : Hp} {m : List Addr} {H : Hp} {r : Res W} {Q : VK} {E : Exc → Hp → Prop} (h : OutG K P G m H (RepW K P) r Q E) : OutG K P.core G m H (RepW K P.core) r Q E := by
  cases r with
  | ok w st' => exact fun G' m' H' v x s r => h G' m' H' v x s.ofCore r.ofCore
  | err c st' => exact fun G' m' H' x s => h G' m' H' x s.ofCore
  | stuck => exact h
def noExc : List W → Bool
  | [] => true
  | w :: r => !w.isExc && noExc r
/-- a call of a def: errors at hand are not given -/
def callF (F : Fn) (a : M (List W)) : M W := fun env st => (a env st).bind fun ws s1 => if noExc ws = true then F ws s1 else .stuck
theorem RepWs.toCore {G : Hp} {m : List Addr} {vs : List V} {ws : List W} (r : RepWs K P G m vs ws) (h : noExc ws = true) : RepWs K P.core G m vs ws := by
  induction r with
  | nil => exact .nil
  | @cons v vs w ws r _ ih =>
    simp only [noExc, Bool.and_eq_true, Bool.not_eq_true'] at h
    exact .cons (r.toCore h.1) (ih h.2)
theorem se_call (c : Cal X.prog X.w X.K X.mg X.base P x n k F) (hF : Ar n F) (hr : Room k X.A) (hg : Gl X x) (tk : Takes X Wx) (ha : SA X P Wx (a :: es) fs) (hdb : (x == ("__debug__" : Str)) = false := by decide +kernel)
    (he : starEach (a :: es) X.env = (false, eval a X.env) :: starEach es X.env := by rfl) (hpl : (backTo pos (starEach es X.env)).any (·.1) = false := by rfl) : SE X P Wx (.Call (.Name x p) (a :: es) [] pos) (callF F fs) := by
  obtain ⟨f, fd, ps, ok, hm, hk, hb⟩ := c.ex
  refine conv (pe_callS ok hr hg hm hk hb (fun σ => passAt tk σ) ha hdb he hpl) fun σ H Q ⟨G, m, env, st, hE, hS, ho⟩ => goG hE hS ho fun G1 m1 H1 v w st1 x1 e1 s1 r1 o1 => ?_
  split at o1
  · rename_i hn
    refine ⟨?_, G1, m1, w, st1, r1.toCore hn, s1.toCore, out_core o1⟩
    rw [r1.length]
    refine hF w st1 fun z => ?_
    rw [z] at o1
    exact o1
  · exact o1.elim

/-! ### own errors -/
structure ExF (K : PySem.W.Frag) (mg : Str → Option Value) (P : Pm) (x : Str) (c : Exc) : Prop where
  g : mg x = some (.ref (P.EC c))
  ex : PySem.W.excIn K (P.EC c) [.type "ValueError", .type "Exception", .type "BaseException", .type "object"] "ValueError.__new__" = true
  kp : PySem.W.keepIn K (.ref (P.EC c)) = true
  sb : PySem.W.subIn K (.ref (P.EC c)) (.type "BaseException") = some true
  ty : PySem.W.typeIn K (.ref (P.EC c)) = some (.type "type")
theorem ss_raise {c : Exc} {z : Str} {j : Nat} {p2 pos2 : Pos} (hc : X.calm = true) (tk : Takes X Wx) (T : ExF X.K X.mg P x c) (hg : Gl X x) (hdb : (x == ("__debug__" : Str)) = false := by decide +kernel) :
    SS X P Wx (.Raise (some (.Call (.Name x p) [.Constant (.str z) j p2] [] pos)) none pos2) (raiseM c) :=
  convS (ps_raise hc tk (pmk_own PySem.F.excBase_ValueError T.ex T.g T.kp (raises_own T.sb T.ty) hg hdb)) fun D σ H ⟨G, m, env, st, hE, hS, ho⟩ => ho G m σ H .refl hE hS

/-! ### try -/
/-- what a clause takes -/
def Catch (K : PySem.W.Frag) (P : Pm) (cv : Value) (cs : List Exc) : Prop := ∀ c : Exc, PySem.W.exmOne K (.ref (P.EC c)) cv = some (decide (c ∈ cs))
inductive Hds (X : Cx) (P : Pm) : List ExceptHandler → List (Value × (Addr → Value → Option Addr → TS)) → List (List Exc × MS) → Prop
  | nil : Hds X P [] [] []
  | cons {x : Str} {cv : Value} {b₀ : Stmt} {suite : List Stmt} {np pos' : Pos} {hds : List ExceptHandler} {l : List (Value × (Addr → Value → Option Addr → TS))} {cs : List Exc} {f : MS} {hs : List (List Exc × MS)} (hc : Names X x cv) (hm : Catch X.K P cv cs)
      (hsu : ∀ (a : Addr) (oe : Obj) (pn : List (Addr × Obj)), SSs (X.suite a ((a, oe) :: pn)) P noX (b₀ :: suite) f) (r : Hds X P hds l hs) :
      Hds X P (.ExceptHandler (some (.Name x np)) none (b₀ :: suite) pos' :: hds) ((cv, fun _ _ _ => rS X.K P noX f) :: l) ((cs, f) :: hs)
theorem Hds.ok {hds : List ExceptHandler} {l : List (Value × (Addr → Value → Option Addr → TS))} {hs : List (List Exc × MS)} (h : Hds X P hds l hs) : HdsOk X hds l := by
  induction h with
  | nil => exact .nil
  | cons hc hm hsu r ih => exact .cons hc (fun a oe cls d pn _ _ => hsu a oe pn) ih
theorem suite_out {G : Hp} {m : List Addr} {H : Hp} {r : RS} {D : Ends} (h : OutS K P Wx G m H (noErrS r) D) : OutS K P noX G m H r D := by
  cases r with
  | err c env st => exact h.elim
  | nx env st => exact h
  | ret w st => exact h
  | stuck => exact h
theorem Hds.wish {hds : List ExceptHandler} {l : List (Value × (Addr → Value → Option Addr → TS))} {hs : List (List Exc × MS)} (h : Hds X P hds l hs) {G : Hp} {m : List Addr} {H : Hp} {σ : L2.St} {env : Env} {st : Store} {c : Exc} {D : Ends} (hE : REnv X.K P G m σ env) (hS : RS0 X.K P G m H st)
    (ho : OutS X.K P Wx G m H (handle c hs env st) D) : wMany X.K Wx D l (.ref (P.EC c)) none σ H := by
  induction h with
  | nil => exact ho G m σ H .refl hE hS
  | @cons x cv b₀ suite np pos' hds l cs f hs hc hm hsu r ih =>
    refine ⟨decide (c ∈ cs), hm c, fun hy a _ => ?_, fun hn => ?_⟩
    · have hy' : c ∈ cs := of_decide_eq_true hy
      unfold handle at ho
      rw [if_pos hy'] at ho
      exact ⟨G, m, env, st, hE, hS, suite_out ho⟩
    · have hn' : ¬ c ∈ cs := of_decide_eq_false hn
      unfold handle at ho
      rw [if_neg hn'] at ho
      exact ih ho
theorem ss_try {body : List Stmt} {h₀ : ExceptHandler} {hds : List ExceptHandler} {l : List (Value × (Addr → Value → Option Addr → TS))} {hs : List (List Exc × MS)} (hst : X.stack = X.env :: X.outer) (hf : X.env.frame = some X.env.locals) (tk : Takes X Wx)
    (hb : ∀ (W : WX) (pn : List (Addr × Obj)) (xe : Value → Shared → Prop), Takes (X.tr pn xe) W → PassesOwn (model X.prog X.w) X.A X.env xe → SSs (X.tr pn xe) P W body f)
    (hh : Hds X P (h₀ :: hds) l hs) : SS X P Wx (.Try body (h₀ :: hds) [] [] pos) (tryM f hs) := by
  refine convS (ps_try_many (tb := fun W => rS X.K P W f) (l := l) hst hf tk hb hh.ok) fun D σ H ⟨G, m, env, st, hE, hS, ho⟩ => ⟨G, m, env, st, hE, hS, ?_⟩
  unfold tryM at ho
  cases q : f env st with
  | nx env' st' => rw [q] at ho; exact ho
  | ret w st' => rw [q] at ho; exact ho
  | stuck => rw [q] at ho; exact ho
  | err c env' st' =>
    rw [q] at ho
    exact fun G' m' σ' H' x e s => hh.wish e s (OutS.shift ho x)
end
end Py

namespace Py
open PySem L2 PySem.Spec PyProof.Rows
section
variable {X : Cx} {P : Pm} {Wx : WX} {a : Expr} {fa : M W}
/-- a value, become data -/
def frM (a : M W) : M W := fun env st => (a env st).bind fun x s1 => (toD x s1).bind fun d s2 => .ok (.d d) s2
theorem se_fr (ha : SE X P Wx a fa) : SE X P Wx a (frM fa) :=
  conv ha fun σ H Q ⟨G, m, env, st, hE, hS, ho⟩ => goG hE hS ho fun G1 m1 H1 v w st1 x1 e1 s1 r1 o1 => by
    cases q : asD st1 w with
    | none => simp only [Py.toD, q, Res.bind_stuck] at o1; exact o1.elim
    | some d =>
      simp only [Py.toD, q, Res.bind_ok] at o1
      obtain ⟨G2, s2, x2, r2⟩ := s1.toD r1 q
      exact o1 G2 m1 H1 v x2 s2 r2
end
end Py

/-! From the top's facts to the law's end. -/
namespace Py
open PySem L2 PySem.Spec PyProof.Rows
section
variable {Pg : Program} {w : World} {K : PySem.W.Frag} {mg : Str → Option Value} {base h : Heap} {P : Pm}
/-- a def that stands behind the top -/
def DefAt (K : PySem.W.Frag) (mg : Str → Option Value) (x : Str) (st : Stmt) (ps : List Str) : Prop := ∃ (f : Addr) (fd : FuncData), L2.Fun K x x st f fd ∧ mg x = some (.ref f) ∧ PySem.W.keepIn K (.ref f) = true ∧ Binds K fd ps []
theorem def_mk {x : Str} {st : Stmt} {ps : List Str} {f : Addr} {oc : Value} {od an : Option Addr} {osl : Array (Option Value)} {kV dc pm cd ct : Value} (X : K.In h) (G : h.Ns mainGlobals mg)
    (a : PySem.W.nsIn K mainGlobals x = some (some (.ref f))) (l : K.lookup f = some ⟨oc, od, .func (PySem.W.fnOf x x (defArgs st) (defBody st) (defScope st) .none kV dc pm an cd ct), osl⟩) (c : PySem.W.codeIn K cd x = true) (k : PySem.W.keepIn K (.ref f) = true)
    (hb : ∀ (kV doc pm : Value) (an : Option Addr) (cdv ct : Value) (us : List Value), us.length = ps.length → bindArgs (PySem.W.fnOf x x (defArgs st) (defBody st) (defScope st) .none kV doc pm an cdv ct) ⟨us, []⟩ = pure (ps.zip us)) : DefAt K mg x st ps :=
  ⟨f, _, fun_mk (st := st) l c k, PySem.W.mg_of X G a, k, (fun_mk (st := st) l c k).binds hb⟩
theorem cal_mk {x : Str} {st : Stmt} {ps : List Str} {n k : Nat} {F : Fn} (D : DefAt K mg x st ps) (hd : ∀ {f : Addr} {fd : FuncData}, L2.Fun K x x st f fd → FnOk Pg w K mg base (L2.CX Pg w) k f fd ps (spF K P n F)) : Cal Pg w K mg base P x n k F := by
  obtain ⟨f, fd, hF, hm, hk, hb⟩ := D
  exact ⟨⟨f, fd, ps, hd hF, hm, hk, hb⟩⟩
/-- a list of at most 63 ints is handed in, True comes out -/
def spLaw (K : PySem.W.Frag) : Sp := fun vs H Q _ => ∃ (a : Addr) (ns : List Int), vs = [.ref a] ∧ SqL K H a (ns.map V.int) ∧ ns.length ≤ 63 ∧ ∀ H', Q (.bl true) H'
theorem law_sp {F : Fn} (hF : ∀ ns : List Int, ns.length ≤ 63 → F [.d (.scr ns)] [] = .ok (.d (.bl true)) []) (vs : List V) (H : Hp) (Q : VK) (E : XK) (h : spLaw K vs H Q E) : spF K P 1 F vs H Q E := by
  obtain ⟨a, ns, rfl, hS, hl, k⟩ := h
  refine ⟨rfl, H, [], [.d (.scr ns)], [], .cons (.scr hS) .nil, ⟨fun _ _ e => e, rfl, List.nodup_nil, fun a ha => absurd ha List.not_mem_nil, fun k a c ha => by cases k <;> cases ha⟩, ?_⟩
  rw [hF ns hl]
  intro G' m' H' v x s r
  cases r
  exact k H'
theorem weak {x : Str} {f : Addr} {fd : FuncData} {CX : CXT} {k : Nat} {sp sp' : Sp} (F : FnOk Pg w K mg base CX k f fd [x] sp) (i : ∀ vs H Q E, sp' vs H Q E → sp vs H Q E) : FnOk Pg w K mg base CX k f fd [x] sp' :=
  ⟨fun vs H Q E z => F.len vs H Q E (i vs H Q E z), fun A outer s H args us vs Q E hr e hb rv z => F.run A outer s H args us vs Q E hr e hb rv (i vs H Q E z)⟩
/-! ### tables of the text -/
inductive ValD : List Value → List D → Prop
  | nil : ValD [] []
  | s {x : Str} {t : Tok} {us : List Value} {ds : List D} : ValD us ds → ValD (.str x t :: us) (.str x :: ds)
  | n {us : List Value} {ds : List D} : ValD us ds → ValD (.none :: us) (.non :: ds)
theorem ValD.ok {us : List Value} {ds : List D} (h : ValD us ds) : ∃ xs : List V, Vals xs us ∧ ∀ G : Hp, RepL K G xs ds := by
  induction h with
  | nil => exact ⟨[], .nil, fun _ => .nil⟩
  | @s x t us ds _ ih =>
    obtain ⟨xs, a, b⟩ := ih
    exact ⟨.str x :: xs, .cons ⟨t, rfl⟩ a, fun G => .cons (.str x) (b G)⟩
  | n _ ih =>
    obtain ⟨xs, a, b⟩ := ih
    exact ⟨.non :: xs, .cons rfl a, fun G => .cons .non (b G)⟩
inductive TabRows (K : PySem.W.Frag) (t : Addr) : List (Str × D) → Prop
  | nil : TabRows K t []
  | cons {k : Str} {a : Addr} {dd : Option Addr} {its : Array Value} {m : Nat} {sl : Array (Option Value)} {ds : List D} {r : List (Str × D)} (hn : PySem.W.nsIn K t k = some (some (.ref a))) (hl : K.lookup a = some ⟨.type "tuple", dd, .seq its m, sl⟩) (hs : its.size ≤ sizeLine) (hv : ValD its.toList ds)
      (hr : TabRows K t r) : TabRows K t ((k, .tup ds) :: r)
theorem tab_mk {t : Addr} {es : Array DictEntry} {n : Nat} {T : List (Str × D)} (l : K.lookup t = some ⟨.type "dict", none, .dict es n, #[]⟩) (hk : PySem.W.KeysLit w.params es.toList) (rows : TabRows K t T) : TabOk K w t T := by
  intro G k d e
  induction rows with
  | nil => cases e
  | @cons k' a dd its m sl ds r hn hl hs hv _ ih =>
    replace e : (if k' = k then some (D.tup ds) else look k r) = some d := e
    split at e
    · rename_i hkk
      subst hkk
      cases e
      obtain ⟨xs, v1, v2⟩ := hv.ok (K := K)
      exact ⟨.ref a, ⟨es, n, .ref a, l, hk, hn, rfl⟩, .tup (.inr ⟨_, its, m, hl, rfl, rfl, hs, v1⟩) (v2 G)⟩
    · exact ih e
/-! ### errors of the text -/
theorem exf_mk {x : Str} {c : Exc} (X : K.In h) (G : h.Ns mainGlobals mg) (g : PySem.W.nsIn K mainGlobals x = some (some (.ref (P.EC c)))) (ex : PySem.W.excIn K (P.EC c) [.type "ValueError", .type "Exception", .type "BaseException", .type "object"] "ValueError.__new__" = true)
    (kp : PySem.W.keepIn K (.ref (P.EC c)) = true) (sb : PySem.W.subIn K (.ref (P.EC c)) (.type "BaseException") = some true) (ty : PySem.W.typeIn K (.ref (P.EC c)) = some (.type "type")) : ExF K mg P x c := ⟨PySem.W.mg_of X G g, ex, kp, sb, ty⟩
theorem catch_mk {cv : Value} {cs : List Exc} (h1 : PySem.W.exmOne K (.ref (P.EC .empty)) cv = some (decide (.empty ∈ cs))) (h2 : PySem.W.exmOne K (.ref (P.EC .kind)) cv = some (decide (.kind ∈ cs))) (h3 : PySem.W.exmOne K (.ref (P.EC .block)) cv = some (decide (.block ∈ cs)))
    (h4 : PySem.W.exmOne K (.ref (P.EC .apart)) cv = some (decide (.apart ∈ cs))) (h5 : PySem.W.exmOne K (.ref (P.EC .dry)) cv = some (decide (.dry ∈ cs))) : Catch K P cv cs := fun c => by
  cases c <;> assumption
end
/-- the errors' classes by their places -/
def ecs (a b c d e : Addr) : Exc → Addr
  | .empty => a | .kind => b | .block => c | .apart => d | .dry => e
theorem walkL {l : PySem.W.OpenLaw} {k : Nat} {q : Program} {loose : List Str} {XP : (Str → Option Value) → Heap → Prop} {YP : World → Heap → Prop} {d : DefRec} {K : Params → PySem.W.Frag} {x : Str} (hn : l.most = some 63) (hdf : d.params.defaults = []) (hr : Room k callerA)
    (hY : ∀ (w : World) (h : Heap), YP w h → (K w.params).In h)
    (F : ∀ (w : World) (mg : Str → Option Value) (fa : Addr) (h : Heap), (K w.params).In h → h.Ns mainGlobals mg → mg d.name = some (.ref fa) →
      ∃ fd : FuncData, (∀ (s : Shared) (u : Value), BindsTo s fd ⟨[u], []⟩ [(x, u)]) ∧ ∀ base : Heap, (K w.params).In base → base.Ns mainGlobals mg → FnOk l.prog w (K w.params) mg base (L2.CX l.prog w) k fa fd [x] (spLaw (K w.params))) :
    PySem.W.WalkO q loose XP YP l.row.toRowW d [] (fun f vs => PySem.call f vs) :=
  L2.walk_of (n := 63) (k := k) (x := x) (CX := fun w => L2.CX l.prog w) (sp := fun w => spLaw (K w.params)) hn (by decide) hdf hr hY F (fun _ _ a ns hl _ hS => ⟨a, ns, rfl, hS, hl, fun _ => rfl⟩) fun _ _ _ _ _ ⟨_, _, _, _, _, _, _, _, _, _, _, _, z⟩ => z
end Py

/-! Plain reckoning with the combinators' terms. -/
namespace Py
open PySem L2
/-! ### texts -/
theorem ofString_inj {a b : String} : (Str.ofString a = Str.ofString b) ↔ a = b := by
  refine ⟨fun h => ?_, fun h => by rw [h]⟩
  rw [Str.ofString_eq_toList, Str.ofString_eq_toList] at h
  have h1 : a.toList.map Char.toNat = b.toList.map Char.toNat := by
    have := congrArg (fun s => s.cps.toList) h
    simpa using this
  have h2 : a.toList = b.toList := List.map_inj_right (fun x y e => Char.ext (UInt32.toNat_inj.mp e)) |>.mp h1
  exact String.ext h2
theorem ofString_beq {a b : String} : (Str.ofString a == Str.ofString b) = (a == b) := by
  by_cases h : a = b
  · subst h; simp
  · have h' : ¬ Str.ofString a = Str.ofString b := fun e => h (ofString_inj.mp e)
    rw [beq_eq_false_iff_ne.mpr h', beq_eq_false_iff_ne.mpr h]
theorem strOk_of (a : String) : PyData.strOk (Str.ofString a) = true := by
  rw [Str.ofString_eq_toList]
  unfold PyData.strOk
  rw [← Array.all_toList, List.all_map, List.all_eq_true]
  intro c _
  have := c.valid
  show decide (c.toNat < 0x110000) = true
  rw [decide_eq_true_iff]
  rcases this with h | h
  · have : c.toNat < 0xd800 := h
    omega
  · exact h.2
theorem fine_ofs (a : String) : D.fine (.str (Str.ofString a)) = true := strOk_of a
theorem eqD_ofs (a b : String) : eqD (.str (Str.ofString a)) (.str (Str.ofString b)) = some (a == b) := by
  unfold eqD
  simp only [fine_ofs, D.dep, Nat.zero_le, decide_true, Bool.and_true, if_true, D.eqv, ofString_beq]
theorem atI_0 {α : Type} (x : α) (r : List α) : atI (x :: r) 0 = some x := by
  unfold atI ixN; simp
theorem atI_nat {α : Type} (xs : List α) (n : Nat) : atI xs (n : Int) = xs[n]? := by
  unfold atI ixN
  rw [if_pos (Int.natCast_nonneg n)]
  by_cases h : n < xs.length
  · rw [if_pos (by omega)]; simp
  · rw [if_neg (by omega), List.getElem?_eq_none (by omega)]; rfl
theorem atI_1 {α : Type} (x y : α) (r : List α) : atI (x :: y :: r) 1 = some y := atI_nat (x :: y :: r) 1
theorem atI_2 {α : Type} (x y z : α) (r : List α) : atI (x :: y :: z :: r) 2 = some z := atI_nat (x :: y :: z :: r) 2
theorem eqW_ofs (neg : Bool) (a b : String) (st : Store) : eqW neg (.d (.str (Str.ofString a))) (.d (.str (Str.ofString b))) st = .ok (.d (.bl (if neg then !(a == b) else (a == b)))) st := by
  unfold eqW
  simp only [asD, eqD_ofs]
theorem look_ofs (a b : String) (v : D) (r : List (Str × D)) : look (Str.ofString a) ((Str.ofString b, v) :: r) = if b = a then some v else look (Str.ofString a) r := by
  show (if Str.ofString b = Str.ofString a then some v else look (Str.ofString a) r) = _
  by_cases h : b = a
  · subst h; simp
  · have h' : ¬ Str.ofString b = Str.ofString a := fun e => h (ofString_inj.mp e)
    rw [if_neg h', if_neg h]
/-! ### calls' ends -/
theorem kept_refl (st : Store) : Kept st st := ⟨Nat.le_refl _, fun _ _ _ h => h⟩
theorem fin_same (st : Store) (x : D) : fin st (.d x) st = .ok (.d x) st := by
  unfold fin; rw [if_pos (kept_refl st)]; simp
theorem finE_same (st : Store) (c : Exc) : finE st c st = .err c st := by
  unfold finE; rw [if_pos (kept_refl st)]; simp
theorem fin_new (st : Store) (xs : List D) : fin st (.c st.length) (st ++ [.lst xs]) = .ok (.c st.length) (st ++ [.lst xs]) := by
  unfold fin
  rw [if_pos]
  · simp
  · exact ⟨by simp, fun k fs hk h => by rwa [List.getElem?_append_left hk] at h⟩
/-! ### slices -/
theorem cut_from {α : Type} (xs : List α) (n : Nat) : cut xs (some (n : Int)) none = xs.drop n := by
  unfold cut
  rw [HT.sIx_nat, HT.sIx_none]
  by_cases h : n ≤ xs.length
  · rw [Nat.min_eq_left h, List.take_of_length_le (by rw [List.length_drop]; exact Nat.le_refl _)]
  · rw [Nat.min_eq_right (by omega), List.drop_length, List.drop_of_length_le (by omega), List.take_nil]
theorem cut_to {α : Type} (xs : List α) (n : Nat) : cut xs none (some (n : Int)) = xs.take n := by
  unfold cut
  rw [HT.sIx_nat, HT.sIx_none, List.drop_zero, Nat.sub_zero]
  by_cases h : n ≤ xs.length
  · rw [Nat.min_eq_left h]
  · rw [Nat.min_eq_right (by omega), List.take_length, List.take_of_length_le (by omega)]
theorem cut_neg {α : Type} (xs : List α) (n : Nat) (h : 0 < n) : cut xs none (some (-(n : Int))) = xs.take (xs.length - n) := by
  unfold cut
  rw [HT.sIx_none, List.drop_zero, Nat.sub_zero]
  unfold HT.sIx
  simp only
  rw [if_pos (by omega)]
  congr 1
  omega
theorem atI_neg {α : Type} (xs : List α) (n : Nat) (h : 0 < n) (h2 : n ≤ xs.length) : atI xs (-(n : Int)) = xs[xs.length - n]? := by
  unfold atI ixN
  rw [if_neg (by omega), if_pos (by omega)]
  show xs[(-(n : Int) + xs.length).toNat]? = _
  congr 1
  omega
theorem noExc_of {st : Store} {w : W} {d : D} (h : asD st w = some d) : w.isExc = false := by
  cases w <;> first | rfl | cases h
theorem asD_d (st : Store) (x : D) : asD st (.d x) = some x := rfl
/-! ### loops -/
theorem lcLoop_pure {i : Nat} {c : M Bool} {e : M W} {env : Env} {st : Store} (f : D → D) (p : D → Bool) : ∀ (xs acc : List D), (∀ x ∈ xs, c (env.set i (some (.d x))) st = .ok (p x) st ∧ (p x = true → e (env.set i (some (.d x))) st = .ok (.d (f x)) st)) → acc.length + xs.length ≤ sizeLine →
    lcLoop i c e xs acc env st = .ok (acc ++ (xs.filter p).map f) st
  | [], acc, _, _ => by unfold lcLoop; simp
  | x :: xs, acc, h, hl => by
    obtain ⟨h1, h2⟩ := h x List.mem_cons_self
    have hr := fun y hy => h y (List.mem_cons_of_mem x hy)
    simp only [List.length_cons] at hl
    unfold lcLoop
    rw [h1]
    simp only [noErr_ok, Res.bind_ok]
    cases q : p x with
    | true =>
      rw [h2 q]
      simp only [noErr_ok, Res.bind_ok, toD, asD, frzW, if_true]
      rw [if_pos (by omega), lcLoop_pure f p xs (acc ++ [f x]) hr (by simp; omega), List.filter_cons_of_pos q]
      simp
    | false =>
      simp only [Bool.false_eq_true, if_false]
      rw [lcLoop_pure f p xs acc hr (by omega), List.filter_cons_of_neg (by simp [q])]
theorem lcLoop_map {i : Nat} {e : M W} {env : Env} {st : Store} (f : D → D) (xs : List D) (h : ∀ x ∈ xs, e (env.set i (some (.d x))) st = .ok (.d (f x)) st) (hl : xs.length ≤ sizeLine) :
    lcLoop i yesT e xs [] env st = .ok (xs.map f) st := by
  rw [lcLoop_pure f (fun _ => true) xs [] (fun x hx => ⟨rfl, fun _ => h x hx⟩) (by simpa using hl)]
  rw [List.filter_eq_self.mpr (fun _ _ => rfl)]; rfl
theorem loopS_nx {t : Tgt} {body : MS} {x : D} {xs : List D} {env env1 env' : Env} {st st' : Store} (h1 : setT t x env = some env1) (h2 : body env1 st = .nx env' st') : loopS t body (x :: xs) env st = loopS t body xs env' st' := by
  show (match setT t x env with | some env1 => _ | none => _) = _
  rw [h1]
  show (match body env1 st with | .nx env' st' => _ | r => r) = _
  rw [h2]
theorem loopS_err {t : Tgt} {body : MS} {x : D} {xs : List D} {env env1 env' : Env} {st st' : Store} {c : Exc} (h1 : setT t x env = some env1) (h2 : body env1 st = .err c env' st') : loopS t body (x :: xs) env st = .err c env' st' := by
  show (match setT t x env with | some env1 => _ | none => _) = _
  rw [h1]
  show (match body env1 st with | .nx env' st' => _ | r => r) = _
  rw [h2]
theorem loopS_ret {t : Tgt} {body : MS} {x : D} {xs : List D} {env env1 : Env} {st st' : Store} {w : W} (h1 : setT t x env = some env1) (h2 : body env1 st = .ret w st') : loopS t body (x :: xs) env st = .ret w st' := by
  show (match setT t x env with | some env1 => _ | none => _) = _
  rw [h1]
  show (match body env1 st with | .nx env' st' => _ | r => r) = _
  rw [h2]
/-- a loop that ends early at the first item with p -/
theorem loop_any {t : Tgt} {body : MS} {st : Store} {w : W} (I : Env → Prop) (p : D → Bool) : ∀ (xs : List D) (env : Env), (∀ x ∈ xs, ∀ env, I env → ∃ env1, setT t x env = some env1 ∧ ((p x = true ∧ body env1 st = .ret w st) ∨ (p x = false ∧ ∃ env2, body env1 st = .nx env2 st ∧ I env2))) → I env →
    (xs.any p = true ∧ loopS t body xs env st = .ret w st) ∨ (xs.any p = false ∧ ∃ env', loopS t body xs env st = .nx env' st ∧ I env')
  | [], env, _, hI => .inr ⟨rfl, env, rfl, hI⟩
  | x :: xs, env, h, hI => by
    obtain ⟨env1, h1, h2⟩ := h x List.mem_cons_self env hI
    rcases h2 with ⟨hp, hb⟩ | ⟨hp, env2, hb, hI2⟩
    · exact .inl ⟨by rw [List.any_cons, hp]; rfl, loopS_ret h1 hb⟩
    · rw [loopS_nx h1 hb, List.any_cons, hp, Bool.false_or]
      exact loop_any I p xs env2 (fun y hy => h y (List.mem_cons_of_mem x hy)) hI2
/-- a loop by an invariant over what is left -/
theorem loop_inv {t : Tgt} {body : MS} (I : List D → Env → Store → Prop) : ∀ (xs : List D) (env : Env) (st : Store), (∀ x ys env st, I (x :: ys) env st → ∃ env1 env2 st2, setT t x env = some env1 ∧ body env1 st = .nx env2 st2 ∧ I ys env2 st2) → I xs env st →
    ∃ env' st', loopS t body xs env st = .nx env' st' ∧ I [] env' st'
  | [], env, st, _, hI => ⟨env, st, rfl, hI⟩
  | x :: xs, env, st, h, hI => by
    obtain ⟨env1, env2, st2, h1, h2, h3⟩ := h x xs env st hI
    obtain ⟨env', st', e, r⟩ := loop_inv I xs env2 st2 h h3
    exact ⟨env', st', (loopS_nx h1 h2).trans e, r⟩
def uptoD (n : Nat) : List D := (List.range n).map fun (i : Nat) => .int (i : Int)
theorem any_upto {n : Nat} {p : D → Bool} : (uptoD n).any p = (List.range n).any fun i => p (.int (i : Int)) := by
  unfold uptoD; rw [List.any_map]; rfl
theorem mem_upto {n : Nat} {x : D} (h : x ∈ uptoD n) : ∃ i, i < n ∧ x = .int (i : Int) := by
  obtain ⟨i, hi, rfl⟩ := List.mem_map.mp h
  exact ⟨i, List.mem_range.mp hi, rfl⟩
theorem big40 : (1000001 : Int) ≤ 2 ^ 40 := by decide
theorem neg40 : -(2 ^ 40 : Int) ≤ 0 := by decide
theorem rngOk_nat {n : Nat} (hn : n ≤ 900000) : rngOk (n : Int) = true := (rngOk_iff _).mpr
  ⟨Int.le_trans neg40 (Int.natCast_nonneg n), Int.lt_of_lt_of_le (Int.lt_add_one_of_le (Int.le_trans (Int.ofNat_le.mpr hn) (by decide : ((900000 : Nat) : Int) ≤ 1000000))) big40⟩
theorem rng_ok (a : M W) (env : Env) (st st' : Store) (n : Nat) (ha : a env st = .ok (.d (.int (n : Int))) st') (hn : n ≤ 900000) : rngM a env st = .ok (uptoD n) st' := by
  unfold rngM
  rw [ha, Res.bind_ok, asD_d]
  simp only [rngOk_nat hn, if_true, Int.toNat_natCast]
  rfl
theorem big63 : (1000002 : Int) ≤ 2 ^ 63 := by decide
theorem neg63 : -(2 ^ 63 : Int) ≤ 0 := by decide
theorem repOk_succ {n : Nat} (hn : n ≤ 900000) : repOk ((n : Int) + 1) = true := (repOk_iff _).mpr
  ⟨Int.le_trans neg63 (Int.le_trans (Int.natCast_nonneg n) (Int.le_add_one (Int.le_refl _))), Int.lt_of_lt_of_le (Int.lt_add_one_of_le (Int.le_trans (Int.add_le_add_right (Int.ofNat_le.mpr hn) 1) (by decide : ((900000 : Nat) : Int) + 1 ≤ 1000001))) big63⟩
theorem repOk_nat {n : Nat} (hn : n ≤ 900000) : repOk (n : Int) = true := (repOk_iff _).mpr
  ⟨Int.le_trans neg63 (Int.natCast_nonneg n), Int.lt_of_lt_of_le (Int.lt_add_one_of_le (Int.le_trans (Int.ofNat_le.mpr hn) (by decide : ((900000 : Nat) : Int) ≤ 1000001))) big63⟩
theorem big64 : (1000000000000001 : Int) ≤ 2 ^ 64 := by decide
theorem neg64 : -(2 ^ 64 : Int) < 0 := by decide
theorem mulOk_l {i j : Int} (h : 0 ≤ i) (h2 : i ≤ 1000000000000000) : mulOk i j = true := (mulOk_iff _ _).mpr (.inl ⟨Int.lt_of_lt_of_le neg64 h, Int.lt_of_lt_of_le (Int.lt_add_one_of_le h2) big64⟩)
theorem mulOk_r {i j : Int} (h : 0 ≤ j) (h2 : j ≤ 1000000000000000) : mulOk i j = true := (mulOk_iff _ _).mpr (.inr ⟨Int.lt_of_lt_of_le neg64 h, Int.lt_of_lt_of_le (Int.lt_add_one_of_le h2) big64⟩)
theorem tupOk_of {k : Int} (h : 1 ≤ k) (h2 : k ≤ 1000) : tupOk k = true := (tupOk_iff _).mpr ⟨h, h2⟩
theorem fdvOk_of {k : Int} (h : 0 < k) (h2 : k < 1073741824) : fdvOk k = true := (fdvOk_iff _).mpr ⟨h, h2⟩
theorem powOk_109 : powOk 10 9 = true := (powOk_iff _ _).mpr (by decide)
theorem look_nil (k : Str) : look k [] = none := rfl
theorem asD_app {st : Store} {w : W} {d : D} (h : asD st w = some d) (e : List Cell) : asD (st ++ e) w = some d := by
  cases w with
  | d x => exact h
  | exc => exact h
  | c k =>
    simp only [asD] at h ⊢
    by_cases hk : k < st.length
    · rw [List.getElem?_append_left hk]; exact h
    · rw [List.getElem?_eq_none (by omega)] at h; cases h
theorem get_new (st : Store) (c : Cell) : (st ++ [c])[st.length]? = some c := by simp
theorem set_new (st : Store) (c c' : Cell) : (st ++ [c]).set st.length c' = st ++ [c'] := by simp
theorem asD_new (st : Store) (xs : List D) : asD (st ++ [.lst xs]) (.c st.length) = some (.lst xs) := by simp [asD]
theorem isLst_new (st : Store) (xs : List D) : isLst (.c st.length) (st ++ [.lst xs]) = true := by unfold isLst; rw [asD_new]
theorem pow109 (st : Store) : powW (.d (.int 10)) (.d (.int 9)) st = .ok (.d (.int 1000000000)) st := by
  unfold powW
  simp only [asD_d, powOk_109, if_true]
  rfl
theorem items_dl (xs : List D) (st : Store) : itemsW (.d (.lst xs)) st = .ok xs st := rfl
theorem items_dt (xs : List D) (st : Store) : itemsW (.d (.tup xs)) st = .ok xs st := rfl
theorem szs : 0 ≤ sizeLine ∧ 1 ≤ sizeLine ∧ 2 ≤ sizeLine ∧ 3 ≤ sizeLine ∧ 4 ≤ sizeLine ∧ 5 ≤ sizeLine ∧ 6 ≤ sizeLine ∧ 7 ≤ sizeLine ∧ 8 ≤ sizeLine ∧ 9 ≤ sizeLine ∧ 10 ≤ sizeLine ∧ 11 ≤ sizeLine ∧ 12 ≤ sizeLine ∧ 13 ≤ sizeLine ∧ 14 ≤ sizeLine ∧ 15 ≤ sizeLine ∧ 16 ≤ sizeLine ∧ 17 ≤ sizeLine ∧ 18 ≤ sizeLine ∧ 19 ≤ sizeLine ∧ 20 ≤ sizeLine := by decide
theorem frzW_d (x d : D) (st : Store) : frzW (.d x) d st = st := rfl
theorem isExc_d (x : D) : (W.d x).isExc = false := rfl
theorem isExc_c (k : Nat) : (W.c k).isExc = false := rfl
theorem isNon_d (x : D) : (W.d x).isNon = match x with | .non => true | _ => false := by cases x <;> rfl
end Py

namespace Py
open PySem L2 PySem.Spec PyProof.Rows
def T_WANTS : List (Str × D) := [("num", .tup []), ("text", .tup []), ("add", .tup [.str "num", .str "num"]), ("mul", .tup [.str "num", .str "num"]), ("less", .tup [.str "num", .str "num"]), ("join", .tup [.str "text", .str "text"]), ("long", .tup [.str "text"]), ("show", .tup [.str "num"]), ("swap", .tup [.non, .non]), ("drop", .tup [.non])]
def T_PUTS : List (Str × D) := [("num", .tup [.str "num"]), ("text", .tup [.str "text"]), ("add", .tup [.str "num"]), ("mul", .tup [.str "num"]), ("less", .tup [.str "num"]), ("join", .tup [.str "text"]), ("long", .tup [.str "num"]), ("show", .tup [.str "text"])]
abbrev n_draw : List Str := ["_law_script", "_law_tape", "_law_many", "_law_seed", "_law_cell"]
noncomputable def b_draw : MS := (seqM (setLM (varM 1) (conM (.int 0)) (binM (addW false) (binM ixW (varM 1) (conM (.int 0))) (conM (.int 1))))
 (seqM (ifM (tvM (binM leW (binM ixW (varM 1) (conM (.int 0))) (appM (app1 lenW) (consA (varM 0) nilA))))
 (retM (binM modW (binM ixW (varM 0) (binM subW (binM ixW (varM 1) (conM (.int 0))) (conM (.int 1)))) (varM 2)))
 passS)
 (seqM (asgM 3 (appM (app1 lenW) (consA (varM 0) nilA)))
 (seqM (forM (itM (slM false (varM 0) noneO (someO (conM (.int 4))))) (.name 4)
 (asgM 3 (binM modW (binM (addW false) (binM (mulW false) (varM 3) (conM (.int 131))) (varM 4)) (conM (.int 1000003)))))
 (retM (binM modW (binM modW (binM (mulW false) (binM (addW false) (varM 3) (conM (.int 7))) (binM (addW false) (binM (mulW false) (binM ixW (varM 1) (conM (.int 0))) (binM ixW (varM 1) (conM (.int 0)))) (conM (.int 48271)))) (conM (.int 1000003))) (varM 2)))))))
noncomputable def s_draw : Fn := fnM 3 5 b_draw
theorem A_draw : Ar 3 s_draw := ar_fn
abbrev n_words : List Str := ["_law_cell", "_law_size", "_law_signs", "_law_k"]
noncomputable def b_words : MS := (seqM (asgM 2 (conM (.str "abcdefghijklmnopqrstuvwxyzABCDEFGHIJKLMNOPQRSTUVWXYZ0123456789")))
 (seqM (asgM 2 (binM (addW false) (varM 2) (conM (.str " .,;:!?'\"()[]{}<>+-*/=&|^~_#$@\\`"))))
 (retM (unM (joinS "") (lcM false (rngM (varM 1)) 3 yesT (binM ixW (varM 2) (binM modW (binM (addW false) (binM fdivW (varM 0) (binM (addW false) (varM 3) (conM (.int 1)))) (binM (mulW false) (conM (.int 5)) (varM 3))) (conM (.int 94)))))))))
noncomputable def s_words : Fn := fnM 2 4 b_words
theorem A_words : Ar 2 s_words := ar_fn
abbrev n_value : List Str := ["_law_script", "_law_tape", "_law_kind", "_law_cell", "_law_way"]
noncomputable def b_value : MS := (seqM (asgM 3 (callF s_draw (consA (varM 0) (consA (varM 1) (consA (conM (.int 1000000000)) nilA)))))
 (seqM (asgM 4 (callF s_draw (consA (varM 0) (consA (varM 1) (consA (conM (.int 6)) nilA)))))
 (seqM (ifM (tvM (binM (eqW false) (varM 2) (conM (.str "text"))))
 (seqM (ifM (tvM (binM (eqW false) (varM 4) (conM (.int 0))))
 (retM (callF s_words (consA (varM 3) (consA (binM (addW false) (conM (.int 58)) (binM modW (varM 3) (conM (.int 3)))) nilA))))
 passS)
 (retM (callF s_words (consA (varM 3) (consA (binM modW (binM fdivW (varM 3) (conM (.int 94))) (conM (.int 8))) nilA)))))
 passS)
 (seqM (ifM (tvM (binM (eqW false) (varM 4) (conM (.int 0))))
 (retM (binM subW (conM (.int 999999999)) (binM modW (varM 3) (conM (.int 3)))))
 passS)
 (seqM (ifM (tvM (binM ltW (varM 4) (conM (.int 3))))
 (retM (binM modW (varM 3) (conM (.int 4))))
 passS)
 (retM (varM 3)))))))
noncomputable def s_value : Fn := fnM 3 5 b_value
theorem A_value : Ar 3 s_value := ar_fn
abbrev n_plain_row : List Str := ["_law_script", "_law_tape", "_law_some", "_law_word"]
noncomputable def b_plain_row : MS := (seqM (asgM 2 (lstM false (consA (conM (.str "num")) (consA (conM (.str "text")) (consA (conM (.str "add")) (consA (conM (.str "mul")) (consA (conM (.str "less")) (consA (conM (.str "join")) (consA (conM (.str "long")) (consA (conM (.str "show")) (consA (conM (.str "swap")) (consA (conM (.str "drop")) (consA (conM (.str "copy")) (consA (conM (.str "copy")) (consA (conM (.str "copy")) nilA)))))))))))))))
 (seqM (asgM 3 (binM ixW (varM 2) (callF s_draw (consA (varM 0) (consA (varM 1) (consA (conM (.int 13)) nilA))))))
 (seqM (ifM (orT (tvM (binM (eqW false) (varM 3) (conM (.str "num")))) (tvM (binM (eqW false) (varM 3) (conM (.str "text")))))
 (retM (tupM (consA (varM 3) (consA (callF s_value (consA (varM 0) (consA (varM 1) (consA (varM 3) nilA)))) nilA))))
 passS)
 (seqM (ifM (tvM (binM (eqW false) (varM 3) (conM (.str "copy"))))
 (retM (tupM (consA (varM 3) (consA (binM ixW (lstM false (consA (conM (.int 0)) (consA (conM (.int 0)) (consA (conM (.int 1)) (consA (conM (.int 1)) (consA (conM (.int 2)) (consA (conM (.int 3)) (consA (callF s_draw (consA (varM 0) (consA (varM 1) (consA (conM (.int 61)) nilA)))) (consA (conM (.int 60)) nilA))))))))) (callF s_draw (consA (varM 0) (consA (varM 1) (consA (conM (.int 8)) nilA))))) nilA))))
 passS)
 (retM (tupM (consA (varM 3) nilA)))))))
noncomputable def s_plain_row : Fn := fnM 2 4 b_plain_row
theorem A_plain_row : Ar 2 s_plain_row := ar_fn
abbrev n_wanted : List Str := ["_law_row", "_law_two", "_law_one"]
noncomputable def b_wanted : MS := (seqM (ifM (tvM (binM (eqW false) (binM ixW (varM 0) (conM (.int 0))) (conM (.str "copy"))))
 (retM (binM (mulW false) (lstM false (consA (conM (.str "")) nilA)) (binM (addW false) (binM ixW (varM 0) (conM (.int 1))) (conM (.int 1)))))
 passS)
 (seqM (asgM 1 (dspC false [("add", .str "num"), ("mul", .str "num"), ("less", .str "num"), ("join", .str "text"), ("swap", .str "")]))
 (seqM (asgM 2 (dspC false [("long", .str "text"), ("show", .str "num"), ("drop", .str "")]))
 (seqM (ifM (tvM (binM (inW false) (binM ixW (varM 0) (conM (.int 0))) (varM 1)))
 (retM (lstM false (consA (binM ixW (varM 1) (binM ixW (varM 0) (conM (.int 0)))) (consA (binM ixW (varM 1) (binM ixW (varM 0) (conM (.int 0)))) nilA))))
 passS)
 (seqM (ifM (tvM (binM (inW false) (binM ixW (varM 0) (conM (.int 0))) (varM 2)))
 (retM (lstM false (consA (binM ixW (varM 2) (binM ixW (varM 0) (conM (.int 0)))) nilA)))
 passS)
 (retM (lstM false nilA)))))))
noncomputable def s_wanted : Fn := fnM 1 3 b_wanted
theorem A_wanted : Ar 1 s_wanted := ar_fn
noncomputable def b_lack : MS := (seqM (ifM (tvM (binM ltW (appM (app1 lenW) (consA (varM 0) nilA)) (appM (app1 lenW) (consA (varM 1) nilA))))
 (retM (conM (.str "empty")))
 passS)
 (seqM (asgM 2 (binM subW (appM (app1 lenW) (consA (varM 0) nilA)) (appM (app1 lenW) (consA (varM 1) nilA))))
 (seqM (forM (rngM (appM (app1 lenW) (consA (varM 1) nilA))) (.name 3)
 (ifM (andT (tvM (binM (eqW true) (binM ixW (varM 1) (varM 3)) (conM (.str "")))) (tvM (binM (eqW true) (binM ixW (varM 1) (varM 3)) (binM ixW (varM 0) (binM (addW false) (varM 2) (varM 3))))))
 (retM (conM (.str "kind")))
 passS))
 (retM (conM (.str ""))))))
noncomputable def s_lack : Fn := fnM 2 4 b_lack
abbrev n_p_wants : List Str := ["row"]
noncomputable def b_p_wants : MS := (seqM (ifM (tvM (binM (eqW false) (binM ixW (varM 0) (conM (.int 0))) (conM (.str "copy"))))
 (retM (binM (mulW false) (tupM (consA (conM .non) nilA)) (binM (addW false) (binM ixW (varM 0) (conM (.int 1))) (conM (.int 1)))))
 passS)
 (retM (unM (tabW T_WANTS) (binM ixW (varM 0) (conM (.int 0))))))
noncomputable def s_p_wants : Fn := fnM 1 1 b_p_wants
theorem A_p_wants : Ar 1 s_p_wants := ar_fn
abbrev n_p_need : List Str := ["kinds", "wanted", "kind", "want"]
noncomputable def b_p_need : MS := (seqM (ifM (tvM (binM ltW (appM (app1 lenW) (consA (varM 0) nilA)) (appM (app1 lenW) (consA (varM 1) nilA))))
 (raiseM .empty)
 passS)
 (forM (zipM2 (slM false (varM 0) (someO (binM subW (appM (app1 lenW) (consA (varM 0) nilA)) (appM (app1 lenW) (consA (varM 1) nilA)))) noneO) (varM 1)) (.pair 2 3)
 (ifM (andT (tvM (binM (isNonB true) (varM 3) (conM .non))) (tvM (binM (eqW true) (varM 2) (varM 3))))
 (raiseM .kind)
 passS)))
noncomputable def s_p_need : Fn := fnM 2 4 b_p_need
theorem A_p_need : Ar 2 s_p_need := ar_fn
abbrev n_p_plainly : List Str := ["kinds", "row", "wanted", "left"]
noncomputable def b_p_plainly : MS := (seqM (asgM 2 (callF s_p_wants (consA (varM 1) nilA)))
 (seqM (expM (callF s_p_need (consA (varM 0) (consA (varM 2) nilA))))
 (seqM (ifM (tvM (binM (eqW false) (binM ixW (varM 1) (conM (.int 0))) (conM (.str "copy"))))
 (retM (binM (addW false) (varM 0) (tupM (consA (binM ixW (varM 0) (binM subW (binM subW (appM (app1 lenW) (consA (varM 0) nilA)) (conM (.int 1))) (binM ixW (varM 1) (conM (.int 1))))) nilA))))
 passS)
 (seqM (asgM 3 (slM false (varM 0) noneO (someO (binM subW (appM (app1 lenW) (consA (varM 0) nilA)) (appM (app1 lenW) (consA (varM 2) nilA))))))
 (seqM (ifM (tvM (binM (eqW false) (binM ixW (varM 1) (conM (.int 0))) (conM (.str "drop"))))
 (retM (varM 3))
 passS)
 (seqM (ifM (tvM (binM (eqW false) (binM ixW (varM 1) (conM (.int 0))) (conM (.str "swap"))))
 (retM (binM (addW false) (varM 3) (tupM (consA (binM ixW (varM 0) (unM negW (conM (.int 1)))) (consA (binM ixW (varM 0) (unM negW (conM (.int 2)))) nilA)))))
 passS)
 (retM (binM (addW false) (varM 3) (unM (tabW T_PUTS) (binM ixW (varM 1) (conM (.int 0))))))))))))
noncomputable def s_p_plainly : Fn := fnM 2 4 b_p_plainly
theorem A_p_plainly : Ar 2 s_p_plainly := ar_fn
abbrev n_p_called : List Str := ["kinds", "block"]
noncomputable def b_p_called : MS := (seqM (expM (callF s_p_need (consA (varM 0) (consA (binM ixW (varM 1) (conM (.int 0))) nilA))))
 (retM (binM (addW false) (slM false (varM 0) noneO (someO (binM subW (appM (app1 lenW) (consA (varM 0) nilA)) (appM (app1 lenW) (consA (binM ixW (varM 1) (conM (.int 0))) nilA))))) (binM ixW (varM 1) (conM (.int 1))))))
noncomputable def s_p_called : Fn := fnM 2 2 b_p_called
theorem A_p_called : Ar 2 s_p_called := ar_fn
abbrev n_p_block_of : List Str := ["program", "name"]
noncomputable def b_p_block_of : MS := (seqM (ifM (tvM (binM (inW true) (varM 1) (varM 0)))
 (raiseM .block)
 passS)
 (retM (binM ixW (varM 0) (varM 1))))
noncomputable def s_p_block_of : Fn := fnM 2 2 b_p_block_of
theorem A_p_block_of : Ar 2 s_p_block_of := ar_fn
abbrev n_p_behind : List Str := ["program", "kinds", "row", "yes", "no"]
noncomputable def b_p_behind : MS := (seqM (ifM (tvM (binM (eqW false) (binM ixW (varM 2) (conM (.int 0))) (conM (.str "call"))))
 (retM (callF s_p_called (consA (varM 1) (consA (callF s_p_block_of (consA (varM 0) (consA (binM ixW (varM 2) (conM (.int 1))) nilA))) nilA))))
 passS)
 (seqM (ifM (tvM (binM (eqW false) (binM ixW (varM 2) (conM (.int 0))) (conM (.str "if"))))
 (seqM (expM (callF s_p_need (consA (varM 1) (consA (tupM (consA (conM (.str "num")) nilA)) nilA))))
 (seqM (asgM 3 (callF s_p_block_of (consA (varM 0) (consA (binM ixW (varM 2) (conM (.int 1))) nilA))))
 (seqM (asgM 4 (callF s_p_block_of (consA (varM 0) (consA (binM ixW (varM 2) (conM (.int 2))) nilA))))
 (seqM (ifM (orT (tvM (binM (eqW true) (binM ixW (varM 3) (conM (.int 0))) (binM ixW (varM 4) (conM (.int 0))))) (tvM (binM (eqW true) (binM ixW (varM 3) (conM (.int 1))) (binM ixW (varM 4) (conM (.int 1))))))
 (raiseM .apart)
 passS)
 (retM (callF s_p_called (consA (slM false (varM 1) noneO (someO (unM negW (conM (.int 1))))) (consA (varM 3) nilA))))))))
 passS)
 (retM (callF s_p_plainly (consA (varM 1) (consA (varM 2) nilA))))))
noncomputable def s_p_behind : Fn := fnM 3 5 b_p_behind
theorem A_p_behind : Ar 3 s_p_behind := ar_fn
noncomputable def b_plainly : MS := (seqM (asgM 2 (slM false (varM 0) noneO (someO (binM subW (appM (app1 lenW) (consA (varM 0) nilA)) (appM (app1 lenW) (consA (callF s_wanted (consA (varM 1) nilA)) nilA))))))
 (seqM (ifM (tvM (binM (eqW false) (binM ixW (varM 1) (conM (.int 0))) (conM (.str "copy"))))
 (retM (binM (addW false) (varM 0) (lstM false (consA (binM ixW (varM 0) (binM subW (binM subW (appM (app1 lenW) (consA (varM 0) nilA)) (conM (.int 1))) (binM ixW (varM 1) (conM (.int 1))))) nilA))))
 passS)
 (seqM (ifM (tvM (binM (eqW false) (binM ixW (varM 1) (conM (.int 0))) (conM (.str "swap"))))
 (retM (binM (addW false) (varM 2) (lstM false (consA (binM ixW (varM 0) (unM negW (conM (.int 1)))) (consA (binM ixW (varM 0) (unM negW (conM (.int 2)))) nilA)))))
 passS)
 (seqM (ifM (tvM (binM (eqW false) (binM ixW (varM 1) (conM (.int 0))) (conM (.str "drop"))))
 (retM (varM 2))
 passS)
 (seqM (ifM (orT (tvM (binM (eqW false) (binM ixW (varM 1) (conM (.int 0))) (conM (.str "text")))) (orT (tvM (binM (eqW false) (binM ixW (varM 1) (conM (.int 0))) (conM (.str "join")))) (tvM (binM (eqW false) (binM ixW (varM 1) (conM (.int 0))) (conM (.str "show"))))))
 (retM (binM (addW false) (varM 2) (lstM false (consA (conM (.str "text")) nilA))))
 passS)
 (retM (binM (addW false) (varM 2) (lstM false (consA (conM (.str "num")) nilA)))))))))
noncomputable def s_plainly : Fn := fnM 2 3 b_plainly
noncomputable def b_tuple : MS := (seqM (ifM (orT (notT (tvM (unM (isi1 "tuple") (varM 0)))) (tvM (binM (eqW true) (appM (app1 lenW) (consA (varM 0) nilA)) (appM (app1 lenW) (consA (varM 1) nilA)))))
 (retM (conM (.bl false)))
 passS)
 (seqM (forM (rngM (appM (app1 lenW) (consA (varM 1) nilA))) (.name 2)
 (ifM (orT (notT (tvM (unM (isi1 "str") (binM ixW (varM 0) (varM 2))))) (tvM (binM (eqW true) (binM ixW (varM 0) (varM 2)) (binM ixW (varM 1) (varM 2)))))
 (retM (conM (.bl false)))
 passS))
 (retM (conM (.bl true)))))
abbrev n_lack_2 : List Str := ["_law_kinds_here", "_law_wanted_here", "_law_low", "_law_k"]
noncomputable def b_lack_2 : MS := (seqM (ifM (tvM (binM ltW (appM (app1 lenW) (consA (varM 0) nilA)) (appM (app1 lenW) (consA (varM 1) nilA))))
 (retM (conM (.str "empty")))
 passS)
 (seqM (asgM 2 (binM subW (appM (app1 lenW) (consA (varM 0) nilA)) (appM (app1 lenW) (consA (varM 1) nilA))))
 (seqM (forM (rngM (appM (app1 lenW) (consA (varM 1) nilA))) (.name 3)
 (ifM (andT (tvM (binM (eqW true) (binM ixW (varM 1) (varM 3)) (conM (.str "")))) (tvM (binM (eqW true) (binM ixW (varM 1) (varM 3)) (binM ixW (varM 0) (binM (addW false) (varM 2) (varM 3))))))
 (retM (conM (.str "kind")))
 passS))
 (retM (conM (.str ""))))))
noncomputable def s_lack_2 : Fn := fnM 2 4 b_lack_2
theorem A_lack_2 : Ar 2 s_lack_2 := ar_fn
abbrev n_called : List Str := ["_law_told_here", "_law_kinds_here", "_law_name", "_law_ins", "_law_word"]
noncomputable def b_called : MS := (seqM (asgM 3 (appM (app1 (listW false)) (consA (binM ixW (binM ixW (varM 0) (varM 2)) (conM (.int 0))) nilA)))
 (seqM (asgM 4 (callF s_lack_2 (consA (varM 1) (consA (varM 3) nilA))))
 (seqM (ifM (tvM (binM (eqW true) (varM 4) (conM (.str ""))))
 (retM (tupM (consA (varM 4) (consA (varM 1) nilA))))
 passS)
 (retM (tupM (consA (conM (.str "")) (consA (binM (addW false) (slM false (varM 1) noneO (someO (binM subW (appM (app1 lenW) (consA (varM 1) nilA)) (appM (app1 lenW) (consA (varM 3) nilA))))) (appM (app1 (listW false)) (consA (binM ixW (binM ixW (varM 0) (varM 2)) (conM (.int 1))) nilA))) nilA)))))))
noncomputable def s_called : Fn := fnM 3 5 b_called
theorem A_called : Ar 3 s_called := ar_fn
abbrev n_plainly_2 : List Str := ["_law_kinds_here", "_law_row", "_law_left"]
noncomputable def b_plainly_2 : MS := (seqM (asgM 2 (slM false (varM 0) noneO (someO (binM subW (appM (app1 lenW) (consA (varM 0) nilA)) (appM (app1 lenW) (consA (callF s_wanted (consA (varM 1) nilA)) nilA))))))
 (seqM (ifM (tvM (binM (eqW false) (binM ixW (varM 1) (conM (.int 0))) (conM (.str "copy"))))
 (retM (binM (addW false) (varM 0) (lstM false (consA (binM ixW (varM 0) (binM subW (binM subW (appM (app1 lenW) (consA (varM 0) nilA)) (conM (.int 1))) (binM ixW (varM 1) (conM (.int 1))))) nilA))))
 passS)
 (seqM (ifM (tvM (binM (eqW false) (binM ixW (varM 1) (conM (.int 0))) (conM (.str "swap"))))
 (retM (binM (addW false) (varM 2) (lstM false (consA (binM ixW (varM 0) (unM negW (conM (.int 1)))) (consA (binM ixW (varM 0) (unM negW (conM (.int 2)))) nilA)))))
 passS)
 (seqM (ifM (tvM (binM (eqW false) (binM ixW (varM 1) (conM (.int 0))) (conM (.str "drop"))))
 (retM (varM 2))
 passS)
 (seqM (ifM (orT (tvM (binM (eqW false) (binM ixW (varM 1) (conM (.int 0))) (conM (.str "text")))) (orT (tvM (binM (eqW false) (binM ixW (varM 1) (conM (.int 0))) (conM (.str "join")))) (tvM (binM (eqW false) (binM ixW (varM 1) (conM (.int 0))) (conM (.str "show"))))))
 (retM (binM (addW false) (varM 2) (lstM false (consA (conM (.str "text")) nilA))))
 passS)
 (retM (binM (addW false) (varM 2) (lstM false (consA (conM (.str "num")) nilA)))))))))
noncomputable def s_plainly_2 : Fn := fnM 2 3 b_plainly_2
theorem A_plainly_2 : Ar 2 s_plainly_2 := ar_fn
abbrev n_next : List Str := ["_law_told_here", "_law_kinds_here", "_law_row", "_law_word"]
noncomputable def b_next : MS := (seqM (ifM (tvM (binM (eqW false) (binM ixW (varM 2) (conM (.int 0))) (conM (.str "call"))))
 (seqM (ifM (tvM (binM (inW true) (binM ixW (varM 2) (conM (.int 1))) (varM 0)))
 (retM (tupM (consA (conM (.str "block")) (consA (varM 1) nilA))))
 passS)
 (retM (callF s_called (consA (varM 0) (consA (varM 1) (consA (binM ixW (varM 2) (conM (.int 1))) nilA))))))
 passS)
 (seqM (ifM (tvM (binM (eqW false) (binM ixW (varM 2) (conM (.int 0))) (conM (.str "if"))))
 (seqM (asgM 3 (callF s_lack_2 (consA (varM 1) (consA (lstM false (consA (conM (.str "num")) nilA)) nilA))))
 (seqM (ifM (tvM (binM (eqW true) (varM 3) (conM (.str ""))))
 (retM (tupM (consA (varM 3) (consA (varM 1) nilA))))
 passS)
 (seqM (ifM (orT (tvM (binM (inW true) (binM ixW (varM 2) (conM (.int 1))) (varM 0))) (tvM (binM (inW true) (binM ixW (varM 2) (conM (.int 2))) (varM 0))))
 (retM (tupM (consA (conM (.str "block")) (consA (varM 1) nilA))))
 passS)
 (seqM (ifM (orT (tvM (binM (eqW true) (binM ixW (binM ixW (varM 0) (binM ixW (varM 2) (conM (.int 1)))) (conM (.int 0))) (binM ixW (binM ixW (varM 0) (binM ixW (varM 2) (conM (.int 2)))) (conM (.int 0))))) (tvM (binM (eqW true) (binM ixW (binM ixW (varM 0) (binM ixW (varM 2) (conM (.int 1)))) (conM (.int 1))) (binM ixW (binM ixW (varM 0) (binM ixW (varM 2) (conM (.int 2)))) (conM (.int 1))))))
 (retM (tupM (consA (conM (.str "apart")) (consA (varM 1) nilA))))
 passS)
 (retM (callF s_called (consA (varM 0) (consA (slM false (varM 1) noneO (someO (unM negW (conM (.int 1))))) (consA (binM ixW (varM 2) (conM (.int 1))) nilA)))))))))
 passS)
 (seqM (asgM 3 (callF s_lack_2 (consA (varM 1) (consA (callF s_wanted (consA (varM 2) nilA)) nilA))))
 (seqM (ifM (tvM (binM (eqW true) (varM 3) (conM (.str ""))))
 (retM (tupM (consA (varM 3) (consA (varM 1) nilA))))
 passS)
 (retM (tupM (consA (conM (.str "")) (consA (callF s_plainly_2 (consA (varM 1) (consA (varM 2) nilA))) nilA))))))))
noncomputable def s_next : Fn := fnM 3 4 b_next
theorem A_next : Ar 3 s_next := ar_fn
abbrev n_kinds_2 : List Str := ["_law_script", "_law_tape", "_law_size", "_law_k"]
noncomputable def b_kinds_2 : MS := (seqM (asgM 2 (callF s_draw (consA (varM 0) (consA (varM 1) (consA (conM (.int 4)) nilA)))))
 (seqM (ifM (tvM (binM (eqW false) (callF s_draw (consA (varM 0) (consA (varM 1) (consA (conM (.int 20)) nilA)))) (conM (.int 7))))
 (asgM 2 (binM (addW false) (conM (.int 4)) (binM (mulW false) (varM 2) (conM (.int 18)))))
 passS)
 (retM (appM (app1 tupleW) (consA (lcM false (rngM (varM 2)) 3 yesT (binM ixW (lstM false (consA (conM (.str "num")) (consA (conM (.str "text")) nilA))) (callF s_draw (consA (varM 0) (consA (varM 1) (consA (conM (.int 2)) nilA)))))) nilA)))))
noncomputable def s_kinds_2 : Fn := fnM 2 4 b_kinds_2
theorem A_kinds_2 : Ar 2 s_kinds_2 := ar_fn
abbrev n_told_3 : List Str := ["_law_script", "_law_tape", "_law_count", "_law_told_here", "_law_kept", "_law_begin", "_law_midst", "_law_k", "_law_name", "_law_way"]
noncomputable def b_told_3 : MS := (seqM (asgM 2 (binM (addW false) (conM (.int 1)) (callF s_draw (consA (varM 0) (consA (varM 1) (consA (conM (.int 4)) nilA))))))
 (seqM (ifM (tvM (binM (eqW false) (callF s_draw (consA (varM 0) (consA (varM 1) (consA (conM (.int 12)) nilA)))) (conM (.int 5))))
 (asgM 2 (binM (addW false) (conM (.int 6)) (callF s_draw (consA (varM 0) (consA (varM 1) (consA (conM (.int 6)) nilA))))))
 passS)
 (seqM (asgM 3 (dnewM true))
 (seqM (asgM 4 (tupM (consA (tupM (consA (conM (.str "num")) nilA)) (consA (tupM (consA (conM (.str "num")) nilA)) nilA))))
 (seqM (asgM 5 (callF s_words (consA (callF s_draw (consA (varM 0) (consA (varM 1) (consA (conM (.int 1000)) nilA)))) (consA (binM ixW (lstM false (consA (conM (.int 0)) (consA (conM (.int 2)) (consA (conM (.int 50)) nilA)))) (callF s_draw (consA (varM 0) (consA (varM 1) (consA (conM (.int 3)) nilA))))) nilA))))
 (seqM (asgM 6 (callF s_draw (consA (varM 0) (consA (varM 1) (consA (conM (.int 2)) nilA)))))
 (seqM (forM (rngM (varM 2)) (.name 7)
 (seqM (asgM 8 (binM (addW false) (binM (addW false) (varM 5) (callF s_words (consA (callF s_draw (consA (varM 0) (consA (varM 1) (consA (conM (.int 1000000)) nilA)))) (consA (callF s_draw (consA (varM 0) (consA (varM 1) (consA (conM (.int 4)) nilA)))) nilA)))) (binM ixW (conM (.str "abcdefghijkl")) (varM 7))))
 (seqM (ifM (tvM (binM (eqW false) (varM 6) (conM (.int 1))))
 (asgM 8 (binM (addW false) (binM (addW false) (varM 5) (binM ixW (conM (.str "abcdefghijkl")) (varM 7))) (varM 5)))
 passS)
 (seqM (asgM 9 (callF s_draw (consA (varM 0) (consA (varM 1) (consA (conM (.int 5)) nilA)))))
 (seqM (ifM (orT (tvM (binM (eqW false) (varM 7) (conM (.int 0)))) (tvM (binM (eqW false) (varM 9) (conM (.int 0)))))
 (asgM 4 (tupM (consA (callF s_kinds_2 (consA (varM 0) (consA (varM 1) nilA))) (consA (callF s_kinds_2 (consA (varM 0) (consA (varM 1) nilA))) nilA))))
 passS)
 (seqM (ifM (orT (tvM (binM (eqW false) (varM 9) (conM (.int 1)))) (tvM (binM (eqW false) (varM 9) (conM (.int 2)))))
 (asgM 4 (tupM (consA (binM ixW (varM 4) (conM (.int 0))) (consA (callF s_kinds_2 (consA (varM 0) (consA (varM 1) nilA))) nilA))))
 passS)
 (setDM (varM 3) (varM 8) (varM 4))))))))
 (retM (varM 3)))))))))
noncomputable def s_told_3 : Fn := fnM 2 10 b_told_3
theorem A_told_3 : Ar 2 s_told_3 := ar_fn
abbrev n_pushes : List Str := ["_law_script", "_law_tape", "_law_kinds_here", "_law_kind"]
noncomputable def b_pushes : MS := (retM (lcM false (itM (varM 2)) 3 yesT (tupM (consA (varM 3) (consA (callF s_value (consA (varM 0) (consA (varM 1) (consA (varM 3) nilA)))) nilA)))))
noncomputable def s_pushes : Fn := fnM 3 4 b_pushes
theorem A_pushes : Ar 3 s_pushes := ar_fn
abbrev n_choice : List Str := ["_law_script", "_law_tape", "_law_told_here", "_law_names", "_law_kinds_here", "_law_name", "_law_like", "_law_other", "_law_value_here"]
noncomputable def b_choice : MS := (seqM (asgM 5 (binM ixW (varM 3) (callF s_draw (consA (varM 0) (consA (varM 1) (consA (appM (app1 lenW) (consA (varM 3) nilA)) nilA))))))
 (seqM (ifM (tvM (binM (eqW false) (callF s_draw (consA (varM 0) (consA (varM 1) (consA (conM (.int 2)) nilA)))) (conM (.int 0))))
 (seqM (ifM (andT (tvM (binM (eqW false) (callF s_lack_2 (consA (varM 4) (consA (appM (app1 (listW false)) (consA (binM ixW (binM ixW (varM 2) (varM 5)) (conM (.int 0))) nilA)) nilA))) (conM (.str "")))) (tvM (binM (eqW false) (callF s_draw (consA (varM 0) (consA (varM 1) (consA (conM (.int 2)) nilA)))) (conM (.int 0)))))
 (retM (lstM false (consA (tupM (consA (conM (.str "call")) (consA (varM 5) nilA))) nilA)))
 passS)
 (retM (binM (addW false) (callF s_pushes (consA (varM 0) (consA (varM 1) (consA (binM ixW (binM ixW (varM 2) (varM 5)) (conM (.int 0))) nilA)))) (lstM false (consA (tupM (consA (conM (.str "call")) (consA (varM 5) nilA))) nilA)))))
 passS)
 (seqM (asgM 6 (binM (addW false) (lcM false (itM (varM 3)) 7 (andT (tvM (binM (eqW false) (binM ixW (varM 2) (varM 7)) (binM ixW (varM 2) (varM 5)))) (tvM (binM (eqW true) (varM 7) (varM 5)))) (varM 7)) (lstM false (consA (varM 5) nilA))))
 (seqM (asgM 7 (binM ixW (varM 6) (binM modW (callF s_draw (consA (varM 0) (consA (varM 1) (consA (conM (.int 1000)) nilA)))) (appM (app2 maxW) (consA (conM (.int 1)) (consA (binM subW (appM (app1 lenW) (consA (varM 6) nilA)) (conM (.int 1))) nilA))))))
 (seqM (asgM 8 (binM ixW (lstM false (consA (conM (.int 0)) (consA (conM (.int 1)) (consA (conM (.int 2)) (consA (callF s_value (consA (varM 0) (consA (varM 1) (consA (conM (.str "num")) nilA)))) nilA))))) (callF s_draw (consA (varM 0) (consA (varM 1) (consA (conM (.int 4)) nilA))))))
 (retM (binM (addW false) (callF s_pushes (consA (varM 0) (consA (varM 1) (consA (binM ixW (binM ixW (varM 2) (varM 5)) (conM (.int 0))) nilA)))) (lstM false (consA (tupM (consA (conM (.str "num")) (consA (varM 8) nilA))) (consA (tupM (consA (conM (.str "if")) (consA (varM 5) (consA (varM 7) nilA)))) nilA))))))))))
noncomputable def s_choice : Fn := fnM 5 9 b_choice
theorem A_choice : Ar 5 s_choice := ar_fn
abbrev n_fitting : List Str := ["_law_script", "_law_tape", "_law_told_here", "_law_names", "_law_kinds_here", "_law_row"]
noncomputable def b_fitting : MS := (seqM (ifM (andT (tvM (binM gtW (appM (app1 lenW) (consA (varM 3) nilA)) (conM (.int 0)))) (tvM (binM (eqW false) (callF s_draw (consA (varM 0) (consA (varM 1) (consA (conM (.int 3)) nilA)))) (conM (.int 0)))))
 (retM (callF s_choice (consA (varM 0) (consA (varM 1) (consA (varM 2) (consA (varM 3) (consA (varM 4) nilA)))))))
 passS)
 (seqM (asgM 5 (callF s_plain_row (consA (varM 0) (consA (varM 1) nilA))))
 (seqM (ifM (tvM (binM (eqW false) (callF s_lack_2 (consA (varM 4) (consA (callF s_wanted (consA (varM 5) nilA)) nilA))) (conM (.str ""))))
 (retM (lstM false (consA (varM 5) nilA)))
 passS)
 (retM (callF s_pushes (consA (varM 0) (consA (varM 1) (consA (lstM false (consA (binM ixW (lstM false (consA (conM (.str "num")) (consA (conM (.str "text")) nilA))) (callF s_draw (consA (varM 0) (consA (varM 1) (consA (conM (.int 2)) nilA))))) nilA)) nilA))))))))
noncomputable def s_fitting : Fn := fnM 5 6 b_fitting
theorem A_fitting : Ar 5 s_fitting := ar_fn
abbrev n_good_rows : List Str := ["_law_script", "_law_tape", "_law_told_here", "_law_name", "_law_names", "_law_ins", "_law_outs", "_law_kinds_here", "_law_rows", "_law_k", "_law_row", "_law_ends", "_law_other"]
noncomputable def b_good_rows : MS := (seqM (asgTM [5, 6] (binM ixW (varM 2) (varM 3)))
 (seqM (asgM 7 (appM (app1 (listW false)) (consA (varM 5) nilA)))
 (seqM (asgM 8 (lstM true nilA))
 (seqM (forM (rngM (callF s_draw (consA (varM 0) (consA (varM 1) (consA (conM (.int 6)) nilA))))) (.name 9)
 (forM (itM (callF s_fitting (consA (varM 0) (consA (varM 1) (consA (varM 2) (consA (varM 4) (consA (varM 7) nilA))))))) (.name 10)
 (seqM (asgM 7 (binM ixW (callF s_next (consA (varM 2) (consA (varM 7) (consA (varM 10) nilA)))) (conM (.int 1))))
 (expM (methL (arg1 appendW) (varM 8) (consA (varM 10) nilA))))))
 (seqM (asgM 11 (lcM false (itM (varM 4)) 12 (tvM (binM (eqW false) (binM ixW (binM ixW (varM 2) (varM 12)) (conM (.int 1))) (varM 6))) (varM 12)))
 (seqM (ifM (andT (tvM (binM gtW (appM (app1 lenW) (consA (varM 11) nilA)) (conM (.int 0)))) (tvM (binM (eqW false) (callF s_draw (consA (varM 0) (consA (varM 1) (consA (conM (.int 3)) nilA)))) (conM (.int 0)))))
 (seqM (asgM 12 (binM ixW (varM 11) (binM modW (callF s_draw (consA (varM 0) (consA (varM 1) (consA (conM (.int 1000)) nilA)))) (appM (app1 lenW) (consA (varM 11) nilA)))))
 (seqM (asgM 8 (binM (addW true) (varM 8) (binM (mulW false) (lstM false (consA (tupM (consA (conM (.str "drop")) nilA)) nilA)) (appM (app1 lenW) (consA (varM 7) nilA)))))
 (retM (binM (addW false) (binM (addW false) (varM 8) (callF s_pushes (consA (varM 0) (consA (varM 1) (consA (binM ixW (binM ixW (varM 2) (varM 12)) (conM (.int 0))) nilA))))) (lstM false (consA (tupM (consA (conM (.str "call")) (consA (varM 12) nilA))) nilA))))))
 passS)
 (seqM (whileM (tvM (binM (eqW true) (appM (app1 tupleW) (consA (varM 7) nilA)) (slM false (varM 6) noneO (someO (appM (app1 lenW) (consA (varM 7) nilA))))))
 (seqM (asgM 7 (slM false (varM 7) noneO (someO (unM negW (conM (.int 1))))))
 (expM (methL (arg1 appendW) (varM 8) (consA (tupM (consA (conM (.str "drop")) nilA)) nilA)))) 1000000)
 (retM (binM (addW false) (varM 8) (callF s_pushes (consA (varM 0) (consA (varM 1) (consA (slM false (varM 6) (someO (appM (app1 lenW) (consA (varM 7) nilA))) noneO) nilA)))))))))))))
noncomputable def s_good_rows : Fn := fnM 5 13 b_good_rows
theorem A_good_rows : Ar 5 s_good_rows := ar_fn
abbrev n_good_program : List Str := ["_law_script", "_law_tape", "_law_told_here", "_law_names", "_law_down", "_law_program", "_law_k", "_law_some", "_law_rows"]
noncomputable def b_good_program : MS := (seqM (asgM 2 (frM (callF s_told_3 (consA (varM 0) (consA (varM 1) nilA)))))
 (seqM (asgM 3 (appM (app1 (listW false)) (consA (varM 2) nilA)))
 (seqM (asgM 4 (callF s_draw (consA (varM 0) (consA (varM 1) (consA (conM (.int 2)) nilA)))))
 (seqM (asgM 5 (dnewM true))
 (seqM (forM (rngM (appM (app1 lenW) (consA (varM 3) nilA))) (.name 6)
 (seqM (asgM 7 (varM 3))
 (seqM (ifM (tvM (binM (eqW false) (varM 4) (conM (.int 1))))
 (asgM 7 (slM false (varM 3) (someO (binM (addW false) (varM 6) (conM (.int 1)))) noneO))
 passS)
 (seqM (asgM 8 (callF s_good_rows (consA (varM 0) (consA (varM 1) (consA (varM 2) (consA (binM ixW (varM 3) (varM 6)) (consA (varM 7) nilA)))))))
 (setDM (varM 5) (binM ixW (varM 3) (varM 6)) (tupM (consA (binM ixW (binM ixW (varM 2) (binM ixW (varM 3) (varM 6))) (conM (.int 0))) (consA (binM ixW (binM ixW (varM 2) (binM ixW (varM 3) (varM 6))) (conM (.int 1))) (consA (varM 8) nilA)))))))))
 (retM (varM 5)))))))
noncomputable def s_good_program : Fn := fnM 2 9 b_good_program
theorem A_good_program : Ar 2 s_good_program := ar_fn
abbrev n_copy : List Str := ["_law_program", "_law_found", "_law_name"]
noncomputable def b_copy : MS := (seqM (asgM 1 (dnewM true))
 (seqM (forM (itM (appM (app1 (listW false)) (consA (varM 0) nilA))) (.name 2)
 (setDM (varM 1) (varM 2) (tupM (consA (binM ixW (binM ixW (varM 0) (varM 2)) (conM (.int 0))) (consA (binM ixW (binM ixW (varM 0) (varM 2)) (conM (.int 1))) (consA (appM (app1 (listW false)) (consA (binM ixW (binM ixW (varM 0) (varM 2)) (conM (.int 2))) nilA)) nilA))))))
 (retM (varM 1))))
noncomputable def s_copy : Fn := fnM 1 3 b_copy
theorem A_copy : Ar 1 s_copy := ar_fn
abbrev n_raw_row : List Str := ["_law_script", "_law_tape", "_law_names", "_law_way", "_law_one", "_law_spot", "_law_some"]
noncomputable def b_raw_row : MS := (seqM (asgM 3 (callF s_draw (consA (varM 0) (consA (varM 1) (consA (conM (.int 4)) nilA)))))
 (seqM (ifM (tvM (binM ltW (varM 3) (conM (.int 2))))
 (retM (callF s_plain_row (consA (varM 0) (consA (varM 1) nilA))))
 passS)
 (seqM (asgM 4 (binM ixW (varM 2) (callF s_draw (consA (varM 0) (consA (varM 1) (consA (appM (app1 lenW) (consA (varM 2) nilA)) nilA))))))
 (seqM (asgM 5 (callF s_draw (consA (varM 0) (consA (varM 1) (consA (appM (app1 lenW) (consA (varM 4) nilA)) nilA)))))
 (seqM (asgM 6 (binM (addW false) (varM 2) (lstM false (consA (binM (addW false) (binM (addW false) (slM false (varM 4) noneO (someO (varM 5))) (conM (.str "?"))) (slM false (varM 4) (someO (binM (addW false) (varM 5) (conM (.int 1)))) noneO)) nilA))))
 (seqM (asgM 4 (binM ixW (varM 6) (callF s_draw (consA (varM 0) (consA (varM 1) (consA (appM (app1 lenW) (consA (varM 6) nilA)) nilA))))))
 (seqM (ifM (tvM (binM (eqW false) (varM 3) (conM (.int 2))))
 (retM (tupM (consA (conM (.str "call")) (consA (varM 4) nilA))))
 passS)
 (retM (tupM (consA (conM (.str "if")) (consA (varM 4) (consA (binM ixW (varM 6) (callF s_draw (consA (varM 0) (consA (varM 1) (consA (appM (app1 lenW) (consA (varM 6) nilA)) nilA))))) nilA))))))))))))
noncomputable def s_raw_row : Fn := fnM 3 7 b_raw_row
theorem A_raw_row : Ar 3 s_raw_row := ar_fn
abbrev n_spoilt : List Str := ["_law_script", "_law_tape", "_law_program", "_law_names", "_law_name", "_law_ins", "_law_outs", "_law_rows", "_law_place", "_law_way"]
noncomputable def b_spoilt : MS := (seqM (asgM 3 (appM (app1 (listW false)) (consA (varM 2) nilA)))
 (seqM (asgM 4 (binM ixW (varM 3) (callF s_draw (consA (varM 0) (consA (varM 1) (consA (appM (app1 lenW) (consA (varM 3) nilA)) nilA))))))
 (seqM (asgTM [5, 6, 7] (binM ixW (varM 2) (varM 4)))
 (seqM (asgM 8 (callF s_draw (consA (varM 0) (consA (varM 1) (consA (binM (addW false) (appM (app1 lenW) (consA (varM 7) nilA)) (conM (.int 1))) nilA)))))
 (seqM (asgM 9 (callF s_draw (consA (varM 0) (consA (varM 1) (consA (conM (.int 6)) nilA)))))
 (seqM (ifM (tvM (binM ltW (varM 9) (conM (.int 2))))
 (asgM 7 (binM (addW false) (binM (addW false) (slM false (varM 7) noneO (someO (varM 8))) (lstM false (consA (callF s_raw_row (consA (varM 0) (consA (varM 1) (consA (varM 3) nilA)))) nilA))) (slM false (varM 7) (someO (binM (addW false) (varM 8) (conM (.int 1)))) noneO)))
 passS)
 (seqM (ifM (tvM (binM (eqW false) (varM 9) (conM (.int 2))))
 (asgM 7 (binM (addW false) (binM (addW false) (slM false (varM 7) noneO (someO (varM 8))) (lstM false (consA (callF s_raw_row (consA (varM 0) (consA (varM 1) (consA (varM 3) nilA)))) nilA))) (slM false (varM 7) (someO (varM 8)) noneO)))
 passS)
 (seqM (ifM (tvM (binM (eqW false) (varM 9) (conM (.int 3))))
 (asgM 7 (binM (addW false) (slM false (varM 7) noneO (someO (varM 8))) (slM false (varM 7) (someO (binM (addW false) (varM 8) (conM (.int 1)))) noneO)))
 passS)
 (seqM (ifM (tvM (binM (eqW false) (varM 9) (conM (.int 4))))
 (asgM 6 (callF s_kinds_2 (consA (varM 0) (consA (varM 1) nilA))))
 passS)
 (seqM (ifM (tvM (binM (eqW false) (varM 9) (conM (.int 5))))
 (asgM 5 (callF s_kinds_2 (consA (varM 0) (consA (varM 1) nilA))))
 passS)
 (seqM (setDM (varM 2) (varM 4) (tupM (consA (varM 5) (consA (varM 6) (consA (varM 7) nilA)))))
 (retM (varM 4)))))))))))))
noncomputable def s_spoilt : Fn := fnM 3 10 b_spoilt
theorem A_spoilt : Ar 3 s_spoilt := ar_fn
abbrev n_walked : List Str := ["_law_program", "_law_name", "_law_ins", "_law_outs", "_law_rows", "_law_made", "_law_row", "_law_word", "_law_kinds_here"]
noncomputable def b_walked : MS := (seqM (asgTM [2, 3, 4] (binM ixW (varM 0) (varM 1)))
 (seqM (asgM 5 (lstM true (consA (varM 2) nilA)))
 (seqM (forM (itM (varM 4)) (.name 6)
 (seqM (asgTM [7, 8] (callF s_next (consA (varM 0) (consA (appM (app1 (listW false)) (consA (binM ixW (varM 5) (unM negW (conM (.int 1)))) nilA)) (consA (varM 6) nilA)))))
 (seqM (ifM (tvM (binM (eqW true) (varM 7) (conM (.str ""))))
 (retM (tupM (consA (varM 5) (consA (varM 7) nilA))))
 passS)
 (expM (methL (arg1 appendW) (varM 5) (consA (appM (app1 tupleW) (consA (varM 8) nilA)) nilA))))))
 (seqM (ifM (tvM (binM (eqW true) (binM ixW (varM 5) (unM negW (conM (.int 1)))) (varM 3)))
 (retM (tupM (consA (varM 5) (consA (conM (.str "end")) nilA))))
 passS)
 (retM (tupM (consA (varM 5) (consA (conM (.str "")) nilA))))))))
noncomputable def s_walked : Fn := fnM 2 9 b_walked
theorem A_walked : Ar 2 s_walked := ar_fn
abbrev n_forged : List Str := ["_law_script", "_law_tape", "_law_trail", "_law_way", "_law_place", "_law_kinds_here", "_law_spot", "_law_other"]
noncomputable def b_forged : MS := (seqM (asgM 3 (callF s_draw (consA (varM 0) (consA (varM 1) (consA (conM (.int 9)) nilA)))))
 (seqM (asgM 4 (binM modW (callF s_draw (consA (varM 0) (consA (varM 1) (consA (conM (.int 1000)) nilA)))) (appM (app1 lenW) (consA (varM 2) nilA))))
 (seqM (asgM 5 (binM ixW (varM 2) (varM 4)))
 (seqM (ifM (tvM (binM (eqW false) (varM 3) (conM (.int 0))))
 (retM (lstM true nilA))
 passS)
 (seqM (ifM (tvM (binM (eqW false) (varM 3) (conM (.int 1))))
 (retM (binM (addW true) (slM false (varM 2) noneO (someO (varM 4))) (slM false (varM 2) (someO (binM (addW false) (varM 4) (conM (.int 1)))) noneO)))
 passS)
 (seqM (ifM (tvM (binM (eqW false) (varM 3) (conM (.int 2))))
 (retM (binM (addW true) (binM (addW false) (slM false (varM 2) noneO (someO (varM 4))) (lstM false (consA (varM 5) nilA))) (slM false (varM 2) (someO (varM 4)) noneO)))
 passS)
 (seqM (ifM (tvM (binM (eqW false) (varM 3) (conM (.int 3))))
 (retM (binM (addW true) (binM (addW false) (slM false (varM 2) noneO (someO (varM 4))) (lstM false (consA (slM false (varM 5) (someO (conM (.int 1))) noneO) nilA))) (slM false (varM 2) (someO (binM (addW false) (varM 4) (conM (.int 1)))) noneO)))
 passS)
 (seqM (ifM (tvM (binM (eqW false) (varM 3) (conM (.int 4))))
 (retM (binM (addW true) (binM (addW false) (slM false (varM 2) noneO (someO (varM 4))) (lstM false (consA (binM (addW false) (varM 5) (tupM (consA (binM ixW (lstM false (consA (conM (.str "num")) (consA (conM (.str "text")) nilA))) (callF s_draw (consA (varM 0) (consA (varM 1) (consA (conM (.int 2)) nilA))))) nilA))) nilA))) (slM false (varM 2) (someO (binM (addW false) (varM 4) (conM (.int 1)))) noneO)))
 passS)
 (seqM (ifM (andT (tvM (binM (eqW false) (varM 3) (conM (.int 5)))) (tvM (binM gtW (appM (app1 lenW) (consA (varM 5) nilA)) (conM (.int 0)))))
 (seqM (asgM 6 (binM modW (callF s_draw (consA (varM 0) (consA (varM 1) (consA (conM (.int 1000)) nilA)))) (appM (app1 lenW) (consA (varM 5) nilA))))
 (seqM (asgM 7 (binM ixW (lstM false (consA (conM (.str "num")) (consA (conM (.str "text")) nilA))) (appM (app1 intW) (consA (binM (eqW false) (binM ixW (varM 5) (varM 6)) (conM (.str "num"))) nilA))))
 (retM (binM (addW true) (binM (addW false) (slM false (varM 2) noneO (someO (varM 4))) (lstM false (consA (binM (addW false) (binM (addW false) (slM false (varM 5) noneO (someO (varM 6))) (tupM (consA (varM 7) nilA))) (slM false (varM 5) (someO (binM (addW false) (varM 6) (conM (.int 1)))) noneO)) nilA))) (slM false (varM 2) (someO (binM (addW false) (varM 4) (conM (.int 1)))) noneO)))))
 passS)
 (seqM (ifM (tvM (binM (eqW false) (varM 3) (conM (.int 6))))
 (retM (unM (revW true) (varM 2)))
 passS)
 (retM (varM 2))))))))))))
noncomputable def s_forged : Fn := fnM 3 8 b_forged
theorem A_forged : Ar 3 s_forged := ar_fn
abbrev n_p_holds : List Str := ["program", "name", "trail", "ins", "outs", "rows", "place"]
noncomputable def b_p_holds : MS := (seqM (asgTM [3, 4, 5] (binM ixW (varM 0) (varM 1)))
 (seqM (ifM (orT (tvM (binM (eqW true) (appM (app1 lenW) (consA (varM 2) nilA)) (binM (addW false) (appM (app1 lenW) (consA (varM 5) nilA)) (conM (.int 1))))) (orT (tvM (binM (eqW true) (binM ixW (varM 2) (conM (.int 0))) (varM 3))) (tvM (binM (eqW true) (binM ixW (varM 2) (unM negW (conM (.int 1)))) (varM 4)))))
 (retM (conM (.bl false)))
 passS)
 (seqM (forM (rngM (appM (app1 lenW) (consA (varM 5) nilA))) (.name 6)
 (tryM (ifM (tvM (binM (eqW true) (callF s_p_behind (consA (varM 0) (consA (binM ixW (varM 2) (varM 6)) (consA (binM ixW (varM 5) (varM 6)) nilA)))) (binM ixW (varM 2) (binM (addW false) (varM 6) (conM (.int 1))))))
 (retM (conM (.bl false)))
 passS) [([.empty, .kind, .block, .apart, .dry], (retM (conM (.bl false))))]))
 (retM (conM (.bl true))))))
noncomputable def s_p_holds : Fn := fnM 3 7 b_p_holds
theorem A_p_holds : Ar 3 s_p_holds := ar_fn
abbrev n_law_k05 : List Str := ["_law_script", "_law_tape", "_law_way", "_law_program", "_law_names", "_law_name", "_law_made", "_law_word", "_law_told_here", "_law_ins", "_law_outs", "_law_rows", "_law_kept", "_law_handed", "_law_found", "_law_kinds_here"]
noncomputable def b_law_k05 : MS := (seqM (asgM 1 (lstM true (consA (conM (.int 0)) nilA)))
 (seqM (asgM 2 (callF s_draw (consA (varM 0) (consA (varM 1) (consA (conM (.int 8)) nilA)))))
 (seqM (asgM 3 (callF s_good_program (consA (varM 0) (consA (varM 1) nilA))))
 (seqM (asgM 4 (appM (app1 (listW false)) (consA (varM 3) nilA)))
 (seqM (asgM 5 (binM ixW (varM 4) (binM modW (callF s_draw (consA (varM 0) (consA (varM 1) (consA (conM (.int 1000)) nilA)))) (appM (app1 lenW) (consA (varM 4) nilA)))))
 (seqM (ifM (tvM (binM ltW (varM 2) (conM (.int 3))))
 (asgM 5 (callF s_spoilt (consA (varM 0) (consA (varM 1) (consA (varM 3) nilA)))))
 passS)
 (seqM (asgTM [6, 7] (callF s_walked (consA (varM 3) (consA (varM 5) nilA))))
 (seqM (asgM 8 (appM (app1 (listW true)) (consA (varM 6) nilA)))
 (seqM (whileM (andT (tvM (binM (eqW true) (varM 7) (conM (.str "")))) (tvM (binM ltW (appM (app1 lenW) (consA (varM 8) nilA)) (binM (addW false) (appM (app1 lenW) (consA (binM ixW (binM ixW (varM 3) (varM 5)) (conM (.int 2))) nilA)) (conM (.int 1))))))
 (expM (methL (arg1 appendW) (varM 8) (consA (binM ixW (binM ixW (varM 3) (varM 5)) (conM (.int 1))) nilA))) 1000000)
 (seqM (ifM (andT (tvM (binM (eqW false) (varM 7) (conM (.str "end")))) (tvM (binM (eqW false) (callF s_draw (consA (varM 0) (consA (varM 1) (consA (conM (.int 2)) nilA)))) (conM (.int 0)))))
 (setLM (varM 8) (binM subW (appM (app1 lenW) (consA (varM 8) nilA)) (conM (.int 1))) (binM ixW (binM ixW (varM 3) (varM 5)) (conM (.int 1))))
 passS)
 (seqM (asgM 8 (callF s_forged (consA (varM 0) (consA (varM 1) (consA (varM 8) nilA)))))
 (seqM (ifM (andT (tvM (binM (eqW false) (varM 7) (conM (.str "")))) (tvM (binM (eqW false) (callF s_draw (consA (varM 0) (consA (varM 1) (consA (conM (.int 6)) nilA)))) (conM (.int 0)))))
 (seqM (asgTM [9, 10, 11] (binM ixW (varM 3) (varM 5)))
 (seqM (setDM (varM 3) (varM 5) (tupM (consA (varM 9) (consA (binM (addW false) (tupM (consA (conM (.str "text")) nilA)) (varM 10)) (consA (varM 11) nilA)))))
 (seqM (asgM 8 (lcM true (itM (varM 6)) 15 yesT (binM (addW false) (tupM (consA (conM (.str "text")) nilA)) (varM 15))))
 (asgM 7 (conM (.str "end"))))))
 passS)
 (seqM (asgM 12 (frM (callF s_copy (consA (varM 3) nilA))))
 (seqM (asgM 13 (appM (app1 (listW false)) (consA (varM 8) nilA)))
 (seqM (asgM 14 (callF s_p_holds (consA (varM 3) (consA (varM 5) (consA (varM 13) nilA)))))
 (seqM (ifM (orT (tvM (binM (eqW true) (varM 3) (varM 12))) (orT (tvM (binM (eqW true) (varM 13) (varM 8))) (notT (tvM (unM (isi1 "bool") (varM 14))))))
 (retM (conM (.bl false)))
 passS)
 (retM (binM (eqW false) (varM 14) (andV (binM (eqW false) (varM 7) (conM (.str ""))) (binM (eqW false) (varM 8) (varM 6)))))))))))))))))))))
noncomputable def s_law_k05 : Fn := fnM 1 16 b_law_k05
end Py

namespace Py
open PySem L2
/-! ### typed data -/
inductive Kd where | num | text deriving DecidableEq
def Kd.s : Kd → String | .num => "num" | .text => "text"
def Kd.enc (k : Kd) : D := .str (Str.ofString k.s)
inductive Val where | i (n : Int) | s (t : Str) deriving DecidableEq
def Val.enc : Val → D | .i n => .int n | .s t => .str t
def Val.kd : Val → Kd | .i _ => .num | .s _ => .text
/-- a value that the rows make -/
def Val.ok : Val → Prop | .i n => 0 ≤ n ∧ n < 1000000000 | .s t => PyData.strOk t = true ∧ t.length ≤ 60
inductive Op where | add | mul | less | join | long | shw | swap | drop deriving DecidableEq
def Op.s : Op → String | .add => "add" | .mul => "mul" | .less => "less" | .join => "join" | .long => "long" | .shw => "show" | .swap => "swap" | .drop => "drop"
inductive Row where
  | num (v : Int) | text (s : Str) | op (o : Op) | copy (k : Nat)
def Row.word : Row → String | .num _ => "num" | .text _ => "text" | .op o => o.s | .copy _ => "copy"
def Row.enc : Row → D
  | .num v => .tup [.str "num", .int v]
  | .text v => .tup [.str "text", .str v]
  | .op o => .tup [.str (Str.ofString o.s)]
  | .copy k => .tup [.str "copy", .int k]
def Row.ok : Row → Prop
  | .num v => (Val.i v).ok
  | .text s => (Val.s s).ok
  | .copy k => k ≤ 60
  | .op _ => True
theorem small {n : Nat} (h : n ≤ 1000000) : n ≤ sizeLine := Nat.le_trans h (by decide)
/-! ### wants, need -/
def Op.wants : Op → List (Option Kd)
  | .add => [some .num, some .num] | .mul => [some .num, some .num] | .less => [some .num, some .num] | .join => [some .text, some .text]
  | .long => [some .text] | .shw => [some .num] | .swap => [none, none] | .drop => [none]
def Row.wants : Row → List (Option Kd)
  | .num _ => [] | .text _ => [] | .op o => o.wants | .copy k => List.replicate (k + 1) none
def encO : Option Kd → D | none => .non | some k => k.enc
theorem reps_one (k : Nat) (d : D) : reps (((k : Nat) : Int) + 1) [d] = List.replicate (k + 1) d := by
  unfold reps
  have : (((k : Nat) : Int) + 1).toNat = k + 1 := by omega
  rw [this]
  induction k with
  | zero => rfl
  | succ k ih => rw [List.replicate_succ, List.flatten_cons, ih (by omega), List.replicate_succ (n := k + 1)]; rfl
theorem wants_ok (r : Row) (hr : r.ok) (st : Store) : s_p_wants [.d r.enc] st = .ok (.d (.tup (r.wants.map encO))) st := by
  unfold s_p_wants b_p_wants
  cases r with
  | num v => unfold Row.enc; simp only [szs, fnM, rawM, seqM, ifM, tvM, truM, binM, unM, appM, consA, nilA, varM, conM, retM, retN, asgM, expM, raiseM, passS, callF, app1, app2, noExc, isExc_d, isExc_c, bindS_ok, bindS_err, bindS_stuck, Res.bind_ok, Res.bind_err, Res.bind_stuck, onBl_bl, andT, orT, notT, andV, orV, notV, tupM, lstM, toDs, toD, asD_d, asD_new, frzW_d, newT, newL, slM, slW, someO, noneO, ixW, addW, subW, mulW, modW, cmpW, negW, lenW, intW, tabW, isNonB, isNonW, isNon_d, List.map_cons, List.map_nil, List.length_cons, List.length_nil, List.replicate, List.append_nil, List.nil_append, List.cons_append, List.getElem?_cons_zero, List.getElem?_cons_succ, List.set_cons_zero, List.set_cons_succ, Nat.reduceAdd, Nat.reduceSub, if_true, if_false, ite_true, ite_false, Bool.not_true, Bool.not_false, Bool.and_true, Bool.and_false, Bool.false_eq_true, reduceIte, fin_same, finE_same, fin_new, atI_0, atI_1, atI_2, eqW_ofs, look_ofs, look_nil, dspC, newDc, inW, Option.isSome_some, Option.isSome_none, itM, forM, items_dl, items_dt, methL, methD, arg0, arg1, arg2, appendW, popW, listW, get_new, set_new, isLst_new, pow109, String.reduceBEq, String.reduceEq, Bool.false_or, Bool.true_or, Bool.or_false, Bool.or_true]; simp [T_WANTS, look_ofs, fin_same, Row.wants]
  | text v => unfold Row.enc; simp only [szs, fnM, rawM, seqM, ifM, tvM, truM, binM, unM, appM, consA, nilA, varM, conM, retM, retN, asgM, expM, raiseM, passS, callF, app1, app2, noExc, isExc_d, isExc_c, bindS_ok, bindS_err, bindS_stuck, Res.bind_ok, Res.bind_err, Res.bind_stuck, onBl_bl, andT, orT, notT, andV, orV, notV, tupM, lstM, toDs, toD, asD_d, asD_new, frzW_d, newT, newL, slM, slW, someO, noneO, ixW, addW, subW, mulW, modW, cmpW, negW, lenW, intW, tabW, isNonB, isNonW, isNon_d, List.map_cons, List.map_nil, List.length_cons, List.length_nil, List.replicate, List.append_nil, List.nil_append, List.cons_append, List.getElem?_cons_zero, List.getElem?_cons_succ, List.set_cons_zero, List.set_cons_succ, Nat.reduceAdd, Nat.reduceSub, if_true, if_false, ite_true, ite_false, Bool.not_true, Bool.not_false, Bool.and_true, Bool.and_false, Bool.false_eq_true, reduceIte, fin_same, finE_same, fin_new, atI_0, atI_1, atI_2, eqW_ofs, look_ofs, look_nil, dspC, newDc, inW, Option.isSome_some, Option.isSome_none, itM, forM, items_dl, items_dt, methL, methD, arg0, arg1, arg2, appendW, popW, listW, get_new, set_new, isLst_new, pow109, String.reduceBEq, String.reduceEq, Bool.false_or, Bool.true_or, Bool.or_false, Bool.or_true]; simp [T_WANTS, look_ofs, fin_same, Row.wants]
  | op o => unfold Row.enc; cases o <;> (unfold Op.s; simp only [szs, fnM, rawM, seqM, ifM, tvM, truM, binM, unM, appM, consA, nilA, varM, conM, retM, retN, asgM, expM, raiseM, passS, callF, app1, app2, noExc, isExc_d, isExc_c, bindS_ok, bindS_err, bindS_stuck, Res.bind_ok, Res.bind_err, Res.bind_stuck, onBl_bl, andT, orT, notT, andV, orV, notV, tupM, lstM, toDs, toD, asD_d, asD_new, frzW_d, newT, newL, slM, slW, someO, noneO, ixW, addW, subW, mulW, modW, cmpW, negW, lenW, intW, tabW, isNonB, isNonW, isNon_d, List.map_cons, List.map_nil, List.length_cons, List.length_nil, List.replicate, List.append_nil, List.nil_append, List.cons_append, List.getElem?_cons_zero, List.getElem?_cons_succ, List.set_cons_zero, List.set_cons_succ, Nat.reduceAdd, Nat.reduceSub, if_true, if_false, ite_true, ite_false, Bool.not_true, Bool.not_false, Bool.and_true, Bool.and_false, Bool.false_eq_true, reduceIte, fin_same, finE_same, fin_new, atI_0, atI_1, atI_2, eqW_ofs, look_ofs, look_nil, dspC, newDc, inW, Option.isSome_some, Option.isSome_none, itM, forM, items_dl, items_dt, methL, methD, arg0, arg1, arg2, appendW, popW, listW, get_new, set_new, isLst_new, pow109, String.reduceBEq, String.reduceEq, Bool.false_or, Bool.true_or, Bool.or_false, Bool.or_true]; simp [T_WANTS, look_ofs, fin_same, Row.wants, Op.wants, encO, Kd.enc, Kd.s])
  | copy k =>
    have hk : k ≤ 60 := hr
    unfold Row.enc; simp only [szs, fnM, rawM, seqM, ifM, tvM, truM, binM, unM, appM, consA, nilA, varM, conM, retM, retN, asgM, expM, raiseM, passS, callF, app1, app2, noExc, isExc_d, isExc_c, bindS_ok, bindS_err, bindS_stuck, Res.bind_ok, Res.bind_err, Res.bind_stuck, onBl_bl, andT, orT, notT, andV, orV, notV, tupM, lstM, toDs, toD, asD_d, asD_new, frzW_d, newT, newL, slM, slW, someO, noneO, ixW, addW, subW, mulW, modW, cmpW, negW, lenW, intW, tabW, isNonB, isNonW, isNon_d, List.map_cons, List.map_nil, List.length_cons, List.length_nil, List.replicate, List.append_nil, List.nil_append, List.cons_append, List.getElem?_cons_zero, List.getElem?_cons_succ, List.set_cons_zero, List.set_cons_succ, Nat.reduceAdd, Nat.reduceSub, if_true, if_false, ite_true, ite_false, Bool.not_true, Bool.not_false, Bool.and_true, Bool.and_false, Bool.false_eq_true, reduceIte, fin_same, finE_same, fin_new, atI_0, atI_1, atI_2, eqW_ofs, look_ofs, look_nil, dspC, newDc, inW, Option.isSome_some, Option.isSome_none, itM, forM, items_dl, items_dt, methL, methD, arg0, arg1, arg2, appendW, popW, listW, get_new, set_new, isLst_new, pow109, String.reduceBEq, String.reduceEq, Bool.false_or, Bool.true_or, Bool.or_false, Bool.or_true]
    rw [if_pos ⟨tupOk_of (by omega) (by omega), trivial⟩]
    simp only [reps_one]
    rw [if_pos (by rw [List.length_replicate]; exact small (by omega))]
    simp [Row.wants, fin_same, encO]
def bad (p : Kd × Option Kd) : Bool := match p.2 with | none => false | some w => p.1.s != w.s
def need (ks : List Kd) (ws : List (Option Kd)) : Option Exc :=
  if ks.length < ws.length then some .empty
  else if ((ks.drop (ks.length - ws.length)).zip ws).any bad = true then some .kind else none
theorem need_body (k : Kd) (w : Option Kd) (x y : W) (st : Store) : ifM (andT (tvM (binM (isNonB true) (varM 3) (conM .non))) (tvM (binM (eqW true) (varM 2) (varM 3)))) (raiseM .kind) passS [some x, some y, some (.d k.enc), some (.d (encO w))] st
    = if bad (k, w) = true then .err .kind [some x, some y, some (.d k.enc), some (.d (encO w))] st else .nx [some x, some y, some (.d k.enc), some (.d (encO w))] st := by
  cases w with
  | none => simp only [encO, bad]; simp only [szs, fnM, rawM, seqM, ifM, tvM, truM, binM, unM, appM, consA, nilA, varM, conM, retM, retN, asgM, expM, raiseM, passS, callF, app1, app2, noExc, isExc_d, isExc_c, bindS_ok, bindS_err, bindS_stuck, Res.bind_ok, Res.bind_err, Res.bind_stuck, onBl_bl, andT, orT, notT, andV, orV, notV, tupM, lstM, toDs, toD, asD_d, asD_new, frzW_d, newT, newL, slM, slW, someO, noneO, ixW, addW, subW, mulW, modW, cmpW, negW, lenW, intW, tabW, isNonB, isNonW, isNon_d, List.map_cons, List.map_nil, List.length_cons, List.length_nil, List.replicate, List.append_nil, List.nil_append, List.cons_append, List.getElem?_cons_zero, List.getElem?_cons_succ, List.set_cons_zero, List.set_cons_succ, Nat.reduceAdd, Nat.reduceSub, if_true, if_false, ite_true, ite_false, Bool.not_true, Bool.not_false, Bool.and_true, Bool.and_false, Bool.false_eq_true, reduceIte, fin_same, finE_same, fin_new, atI_0, atI_1, atI_2, eqW_ofs, look_ofs, look_nil, dspC, newDc, inW, Option.isSome_some, Option.isSome_none, itM, forM, items_dl, items_dt, methL, methD, arg0, arg1, arg2, appendW, popW, listW, get_new, set_new, isLst_new, pow109, String.reduceBEq, String.reduceEq, Bool.false_or, Bool.true_or, Bool.or_false, Bool.or_true]
  | some w =>
    simp only [encO, bad, Kd.enc, bne]
    simp only [szs, fnM, rawM, seqM, ifM, tvM, truM, binM, unM, appM, consA, nilA, varM, conM, retM, retN, asgM, expM, raiseM, passS, callF, app1, app2, noExc, isExc_d, isExc_c, bindS_ok, bindS_err, bindS_stuck, Res.bind_ok, Res.bind_err, Res.bind_stuck, onBl_bl, andT, orT, notT, andV, orV, notV, tupM, lstM, toDs, toD, asD_d, asD_new, frzW_d, newT, newL, slM, slW, someO, noneO, ixW, addW, subW, mulW, modW, cmpW, negW, lenW, intW, tabW, isNonB, isNonW, isNon_d, List.map_cons, List.map_nil, List.length_cons, List.length_nil, List.replicate, List.append_nil, List.nil_append, List.cons_append, List.getElem?_cons_zero, List.getElem?_cons_succ, List.set_cons_zero, List.set_cons_succ, Nat.reduceAdd, Nat.reduceSub, if_true, if_false, ite_true, ite_false, Bool.not_true, Bool.not_false, Bool.and_true, Bool.and_false, Bool.false_eq_true, reduceIte, fin_same, finE_same, fin_new, atI_0, atI_1, atI_2, eqW_ofs, look_ofs, look_nil, dspC, newDc, inW, Option.isSome_some, Option.isSome_none, itM, forM, items_dl, items_dt, methL, methD, arg0, arg1, arg2, appendW, popW, listW, get_new, set_new, isLst_new, pow109, String.reduceBEq, String.reduceEq, Bool.false_or, Bool.true_or, Bool.or_false, Bool.or_true]
    cases k <;> cases w <;> simp [Kd.s]
theorem need_loop : ∀ (ps : List (Kd × Option Kd)) (a b : Option W) (x y : W) (st : Store),
    ∃ env', loopS (.pair 2 3) (ifM (andT (tvM (binM (isNonB true) (varM 3) (conM .non))) (tvM (binM (eqW true) (varM 2) (varM 3)))) (raiseM .kind) passS) (ps.map fun p => .tup [p.1.enc, encO p.2]) [some x, some y, a, b] st
      = if ps.any bad = true then .err .kind env' st else .nx env' st
  | [], a, b, x, y, st => ⟨_, rfl⟩
  | (k, w) :: ps, a, b, x, y, st => by
    have hb := need_body k w x y st
    rw [List.map_cons, List.any_cons]
    cases q : bad (k, w) with
    | true =>
      rw [if_pos q] at hb
      exact ⟨_, loopS_err rfl hb⟩
    | false =>
      rw [if_neg (by rw [q]; simp)] at hb
      obtain ⟨env', h⟩ := need_loop ps (some (.d k.enc)) (some (.d (encO w))) x y st
      exact ⟨env', (loopS_nx rfl hb).trans h⟩
theorem need_ok (ks : List Kd) (ws : List (Option Kd)) (st : Store) (h1 : ks.length ≤ 500000) : s_p_need [.d (.tup (ks.map Kd.enc)), .d (.tup (ws.map encO))] st = match need ks ws with | some e => .err e st | none => .ok (.d .non) st := by
  unfold s_p_need b_p_need need
  simp only [szs, fnM, rawM, seqM, ifM, tvM, truM, binM, unM, appM, consA, nilA, varM, conM, retM, retN, asgM, expM, raiseM, passS, callF, app1, app2, noExc, isExc_d, isExc_c, bindS_ok, bindS_err, bindS_stuck, Res.bind_ok, Res.bind_err, Res.bind_stuck, onBl_bl, andT, orT, notT, andV, orV, notV, tupM, lstM, toDs, toD, asD_d, asD_new, frzW_d, newT, newL, slM, slW, someO, noneO, ixW, addW, subW, mulW, modW, cmpW, negW, lenW, intW, tabW, isNonB, isNonW, isNon_d, List.map_cons, List.map_nil, List.length_cons, List.length_nil, List.replicate, List.append_nil, List.nil_append, List.cons_append, List.getElem?_cons_zero, List.getElem?_cons_succ, List.set_cons_zero, List.set_cons_succ, Nat.reduceAdd, Nat.reduceSub, if_true, if_false, ite_true, ite_false, Bool.not_true, Bool.not_false, Bool.and_true, Bool.and_false, Bool.false_eq_true, reduceIte, fin_same, finE_same, fin_new, atI_0, atI_1, atI_2, eqW_ofs, look_ofs, look_nil, dspC, newDc, inW, Option.isSome_some, Option.isSome_none, itM, forM, items_dl, items_dt, methL, methD, arg0, arg1, arg2, appendW, popW, listW, get_new, set_new, isLst_new, pow109, String.reduceBEq, String.reduceEq, Bool.false_or, Bool.true_or, Bool.or_false, Bool.or_true]
  simp only [List.length_map, ltW, cmpW, asD]
  by_cases hl : ks.length < ws.length
  · rw [if_pos hl]
    simp only [Int.ofNat_lt, hl, decide_true]
    simp only [szs, fnM, rawM, seqM, ifM, tvM, truM, binM, unM, appM, consA, nilA, varM, conM, retM, retN, asgM, expM, raiseM, passS, callF, app1, app2, noExc, isExc_d, isExc_c, bindS_ok, bindS_err, bindS_stuck, Res.bind_ok, Res.bind_err, Res.bind_stuck, onBl_bl, andT, orT, notT, andV, orV, notV, tupM, lstM, toDs, toD, asD_d, asD_new, frzW_d, newT, newL, slM, slW, someO, noneO, ixW, addW, subW, mulW, modW, cmpW, negW, lenW, intW, tabW, isNonB, isNonW, isNon_d, List.map_cons, List.map_nil, List.length_cons, List.length_nil, List.replicate, List.append_nil, List.nil_append, List.cons_append, List.getElem?_cons_zero, List.getElem?_cons_succ, List.set_cons_zero, List.set_cons_succ, Nat.reduceAdd, Nat.reduceSub, if_true, if_false, ite_true, ite_false, Bool.not_true, Bool.not_false, Bool.and_true, Bool.and_false, Bool.false_eq_true, reduceIte, fin_same, finE_same, fin_new, atI_0, atI_1, atI_2, eqW_ofs, look_ofs, look_nil, dspC, newDc, inW, Option.isSome_some, Option.isSome_none, itM, forM, items_dl, items_dt, methL, methD, arg0, arg1, arg2, appendW, popW, listW, get_new, set_new, isLst_new, pow109, String.reduceBEq, String.reduceEq, Bool.false_or, Bool.true_or, Bool.or_false, Bool.or_true]
  · rw [if_neg hl]
    simp only [Int.ofNat_lt, hl, decide_false]
    simp only [szs, fnM, rawM, seqM, ifM, tvM, truM, binM, unM, appM, consA, nilA, varM, conM, retM, retN, asgM, expM, raiseM, passS, callF, app1, app2, noExc, isExc_d, isExc_c, bindS_ok, bindS_err, bindS_stuck, Res.bind_ok, Res.bind_err, Res.bind_stuck, onBl_bl, andT, orT, notT, andV, orV, notV, tupM, lstM, toDs, toD, asD_d, asD_new, frzW_d, newT, newL, slM, slW, someO, noneO, ixW, addW, subW, mulW, modW, cmpW, negW, lenW, intW, tabW, isNonB, isNonW, isNon_d, List.map_cons, List.map_nil, List.length_cons, List.length_nil, List.replicate, List.append_nil, List.nil_append, List.cons_append, List.getElem?_cons_zero, List.getElem?_cons_succ, List.set_cons_zero, List.set_cons_succ, Nat.reduceAdd, Nat.reduceSub, if_true, if_false, ite_true, ite_false, Bool.not_true, Bool.not_false, Bool.and_true, Bool.and_false, Bool.false_eq_true, reduceIte, fin_same, finE_same, fin_new, atI_0, atI_1, atI_2, eqW_ofs, look_ofs, look_nil, dspC, newDc, inW, Option.isSome_some, Option.isSome_none, itM, forM, items_dl, items_dt, methL, methD, arg0, arg1, arg2, appendW, popW, listW, get_new, set_new, isLst_new, pow109, String.reduceBEq, String.reduceEq, Bool.false_or, Bool.true_or, Bool.or_false, Bool.or_true]
    have e1 : ((ks.length : Int) - (ws.length : Int)) = ((ks.length - ws.length : Nat) : Int) := by omega
    have hsz : (List.drop (ks.length - ws.length) (ks.map Kd.enc)).length ≤ sizeLine := by rw [List.length_drop, List.length_map]; exact small (by omega)
    simp only [szs, fnM, rawM, seqM, ifM, tvM, truM, binM, unM, appM, consA, nilA, varM, conM, retM, retN, asgM, expM, raiseM, passS, callF, app1, app2, noExc, isExc_d, isExc_c, bindS_ok, bindS_err, bindS_stuck, Res.bind_ok, Res.bind_err, Res.bind_stuck, onBl_bl, andT, orT, notT, andV, orV, notV, tupM, lstM, toDs, toD, asD_d, asD_new, frzW_d, newT, newL, slM, slW, someO, noneO, ixW, addW, subW, mulW, modW, cmpW, negW, lenW, intW, tabW, isNonB, isNonW, isNon_d, List.map_cons, List.map_nil, List.length_cons, List.length_nil, List.replicate, List.append_nil, List.nil_append, List.cons_append, List.getElem?_cons_zero, List.getElem?_cons_succ, List.set_cons_zero, List.set_cons_succ, Nat.reduceAdd, Nat.reduceSub, if_true, if_false, ite_true, ite_false, Bool.not_true, Bool.not_false, Bool.and_true, Bool.and_false, Bool.false_eq_true, reduceIte, fin_same, finE_same, fin_new, atI_0, atI_1, atI_2, eqW_ofs, look_ofs, look_nil, dspC, newDc, inW, Option.isSome_some, Option.isSome_none, itM, forM, items_dl, items_dt, methL, methD, arg0, arg1, arg2, appendW, popW, listW, get_new, set_new, isLst_new, pow109, String.reduceBEq, String.reduceEq, Bool.false_or, Bool.true_or, Bool.or_false, Bool.or_true, forM, zipM2]
    simp only [List.length_map, e1, cut_from]
    rw [if_pos hsz]
    simp only [szs, fnM, rawM, seqM, ifM, tvM, truM, binM, unM, appM, consA, nilA, varM, conM, retM, retN, asgM, expM, raiseM, passS, callF, app1, app2, noExc, isExc_d, isExc_c, bindS_ok, bindS_err, bindS_stuck, Res.bind_ok, Res.bind_err, Res.bind_stuck, onBl_bl, andT, orT, notT, andV, orV, notV, tupM, lstM, toDs, toD, asD_d, asD_new, frzW_d, newT, newL, slM, slW, someO, noneO, ixW, addW, subW, mulW, modW, cmpW, negW, lenW, intW, tabW, isNonB, isNonW, isNon_d, List.map_cons, List.map_nil, List.length_cons, List.length_nil, List.replicate, List.append_nil, List.nil_append, List.cons_append, List.getElem?_cons_zero, List.getElem?_cons_succ, List.set_cons_zero, List.set_cons_succ, Nat.reduceAdd, Nat.reduceSub, if_true, if_false, ite_true, ite_false, Bool.not_true, Bool.not_false, Bool.and_true, Bool.and_false, Bool.false_eq_true, reduceIte, fin_same, finE_same, fin_new, atI_0, atI_1, atI_2, eqW_ofs, look_ofs, look_nil, dspC, newDc, inW, Option.isSome_some, Option.isSome_none, itM, forM, items_dl, items_dt, methL, methD, arg0, arg1, arg2, appendW, popW, listW, get_new, set_new, isLst_new, pow109, String.reduceBEq, String.reduceEq, Bool.false_or, Bool.true_or, Bool.or_false, Bool.or_true]
    rw [← List.map_drop, List.zip_map, List.map_map]
    obtain ⟨env', h⟩ := need_loop ((ks.drop (ks.length - ws.length)).zip ws) none none (.d (.tup (ks.map Kd.enc))) (.d (.tup (ws.map encO))) st
    rw [show ((fun p : D × D => D.tup [p.1, p.2]) ∘ Prod.map Kd.enc encO) = (fun p : Kd × Option Kd => D.tup [p.1.enc, encO p.2]) from rfl]
    rw [h]
    by_cases q : ((ks.drop (ks.length - ws.length)).zip ws).any bad = true
    · simp only [if_pos q, finE_same]
    · simp only [if_neg q, fin_same]
theorem need_none {ks : List Kd} {ws : List (Option Kd)} (h : need ks ws = none) : ws.length ≤ ks.length ∧ ((ks.drop (ks.length - ws.length)).zip ws).any bad = false := by
  unfold need at h
  split at h
  · cases h
  · split at h
    · cases h
    · rename_i h1 h2
      exact ⟨by omega, by simpa using h2⟩
end Py

namespace Py
open PySem L2
def encE : Option Kd → String | none => "" | some k => k.s
abbrev encL (ws : List (Option Kd)) : List D := ws.map fun k => .str (Str.ofString (encE k))
theorem lwanted_ok (r : Row) (hr : r.ok) (st : Store) : s_wanted [.d r.enc] st = .ok (.d (.lst (encL r.wants))) st := by
  unfold s_wanted b_wanted
  cases r with
  | num v => unfold Row.enc; simp only [szs, fnM, rawM, seqM, ifM, tvM, truM, binM, unM, appM, consA, nilA, varM, conM, retM, retN, asgM, expM, raiseM, passS, callF, app1, app2, noExc, isExc_d, isExc_c, bindS_ok, bindS_err, bindS_stuck, Res.bind_ok, Res.bind_err, Res.bind_stuck, onBl_bl, andT, orT, notT, andV, orV, notV, tupM, lstM, toDs, toD, asD_d, asD_new, frzW_d, newT, newL, slM, slW, someO, noneO, ixW, addW, subW, mulW, modW, cmpW, negW, lenW, intW, tabW, isNonB, isNonW, isNon_d, List.map_cons, List.map_nil, List.length_cons, List.length_nil, List.replicate, List.append_nil, List.nil_append, List.cons_append, List.getElem?_cons_zero, List.getElem?_cons_succ, List.set_cons_zero, List.set_cons_succ, Nat.reduceAdd, Nat.reduceSub, if_true, if_false, ite_true, ite_false, Bool.not_true, Bool.not_false, Bool.and_true, Bool.and_false, Bool.false_eq_true, reduceIte, fin_same, finE_same, fin_new, atI_0, atI_1, atI_2, eqW_ofs, look_ofs, look_nil, dspC, newDc, inW, Option.isSome_some, Option.isSome_none, itM, forM, items_dl, items_dt, methL, methD, arg0, arg1, arg2, appendW, popW, listW, get_new, set_new, isLst_new, pow109, String.reduceBEq, String.reduceEq, Bool.false_or, Bool.true_or, Bool.or_false, Bool.or_true]; simp [look_ofs, Row.wants, fin_same]
  | text v => unfold Row.enc; simp only [szs, fnM, rawM, seqM, ifM, tvM, truM, binM, unM, appM, consA, nilA, varM, conM, retM, retN, asgM, expM, raiseM, passS, callF, app1, app2, noExc, isExc_d, isExc_c, bindS_ok, bindS_err, bindS_stuck, Res.bind_ok, Res.bind_err, Res.bind_stuck, onBl_bl, andT, orT, notT, andV, orV, notV, tupM, lstM, toDs, toD, asD_d, asD_new, frzW_d, newT, newL, slM, slW, someO, noneO, ixW, addW, subW, mulW, modW, cmpW, negW, lenW, intW, tabW, isNonB, isNonW, isNon_d, List.map_cons, List.map_nil, List.length_cons, List.length_nil, List.replicate, List.append_nil, List.nil_append, List.cons_append, List.getElem?_cons_zero, List.getElem?_cons_succ, List.set_cons_zero, List.set_cons_succ, Nat.reduceAdd, Nat.reduceSub, if_true, if_false, ite_true, ite_false, Bool.not_true, Bool.not_false, Bool.and_true, Bool.and_false, Bool.false_eq_true, reduceIte, fin_same, finE_same, fin_new, atI_0, atI_1, atI_2, eqW_ofs, look_ofs, look_nil, dspC, newDc, inW, Option.isSome_some, Option.isSome_none, itM, forM, items_dl, items_dt, methL, methD, arg0, arg1, arg2, appendW, popW, listW, get_new, set_new, isLst_new, pow109, String.reduceBEq, String.reduceEq, Bool.false_or, Bool.true_or, Bool.or_false, Bool.or_true]; simp [look_ofs, Row.wants, fin_same]
  | op o =>
    unfold Row.enc
    cases o <;> (unfold Op.s; simp only [szs, fnM, rawM, seqM, ifM, tvM, truM, binM, unM, appM, consA, nilA, varM, conM, retM, retN, asgM, expM, raiseM, passS, callF, app1, app2, noExc, isExc_d, isExc_c, bindS_ok, bindS_err, bindS_stuck, Res.bind_ok, Res.bind_err, Res.bind_stuck, onBl_bl, andT, orT, notT, andV, orV, notV, tupM, lstM, toDs, toD, asD_d, asD_new, frzW_d, newT, newL, slM, slW, someO, noneO, ixW, addW, subW, mulW, modW, cmpW, negW, lenW, intW, tabW, isNonB, isNonW, isNon_d, List.map_cons, List.map_nil, List.length_cons, List.length_nil, List.replicate, List.append_nil, List.nil_append, List.cons_append, List.getElem?_cons_zero, List.getElem?_cons_succ, List.set_cons_zero, List.set_cons_succ, Nat.reduceAdd, Nat.reduceSub, if_true, if_false, ite_true, ite_false, Bool.not_true, Bool.not_false, Bool.and_true, Bool.and_false, Bool.false_eq_true, reduceIte, fin_same, finE_same, fin_new, atI_0, atI_1, atI_2, eqW_ofs, look_ofs, look_nil, dspC, newDc, inW, Option.isSome_some, Option.isSome_none, itM, forM, items_dl, items_dt, methL, methD, arg0, arg1, arg2, appendW, popW, listW, get_new, set_new, isLst_new, pow109, String.reduceBEq, String.reduceEq, Bool.false_or, Bool.true_or, Bool.or_false, Bool.or_true]; simp [look_ofs, Row.wants, Op.wants, encE, Kd.s, fin_same])
  | copy k =>
    have hk : k ≤ 60 := hr
    unfold Row.enc; simp only [szs, fnM, rawM, seqM, ifM, tvM, truM, binM, unM, appM, consA, nilA, varM, conM, retM, retN, asgM, expM, raiseM, passS, callF, app1, app2, noExc, isExc_d, isExc_c, bindS_ok, bindS_err, bindS_stuck, Res.bind_ok, Res.bind_err, Res.bind_stuck, onBl_bl, andT, orT, notT, andV, orV, notV, tupM, lstM, toDs, toD, asD_d, asD_new, frzW_d, newT, newL, slM, slW, someO, noneO, ixW, addW, subW, mulW, modW, cmpW, negW, lenW, intW, tabW, isNonB, isNonW, isNon_d, List.map_cons, List.map_nil, List.length_cons, List.length_nil, List.replicate, List.append_nil, List.nil_append, List.cons_append, List.getElem?_cons_zero, List.getElem?_cons_succ, List.set_cons_zero, List.set_cons_succ, Nat.reduceAdd, Nat.reduceSub, if_true, if_false, ite_true, ite_false, Bool.not_true, Bool.not_false, Bool.and_true, Bool.and_false, Bool.false_eq_true, reduceIte, fin_same, finE_same, fin_new, atI_0, atI_1, atI_2, eqW_ofs, look_ofs, look_nil, dspC, newDc, inW, Option.isSome_some, Option.isSome_none, itM, forM, items_dl, items_dt, methL, methD, arg0, arg1, arg2, appendW, popW, listW, get_new, set_new, isLst_new, pow109, String.reduceBEq, String.reduceEq, Bool.false_or, Bool.true_or, Bool.or_false, Bool.or_true]
    simp only [repOk_succ (n := k) (by omega), if_true, reps_one]
    rw [if_pos (by rw [List.length_replicate]; exact small (by omega))]
    simp [Row.wants, fin_same, encE]
def needS : Option Exc → String | none => "" | some .empty => "empty" | some _ => "kind"
theorem lack_ok (ks : List Kd) (ws : List (Option Kd)) (st : Store) (h1 : ks.length ≤ 500000) : s_lack [.d (.lst (ks.map Kd.enc)), .d (.lst (encL ws))] st = .ok (.d (.str (Str.ofString (needS (need ks ws))))) st := by
  unfold s_lack b_lack need
  simp only [szs, fnM, rawM, seqM, ifM, tvM, truM, binM, unM, appM, consA, nilA, varM, conM, retM, retN, asgM, expM, raiseM, passS, callF, app1, app2, noExc, isExc_d, isExc_c, bindS_ok, bindS_err, bindS_stuck, Res.bind_ok, Res.bind_err, Res.bind_stuck, onBl_bl, andT, orT, notT, andV, orV, notV, tupM, lstM, toDs, toD, asD_d, asD_new, frzW_d, newT, newL, slM, slW, someO, noneO, ixW, addW, subW, mulW, modW, cmpW, negW, lenW, intW, tabW, isNonB, isNonW, isNon_d, List.map_cons, List.map_nil, List.length_cons, List.length_nil, List.replicate, List.append_nil, List.nil_append, List.cons_append, List.getElem?_cons_zero, List.getElem?_cons_succ, List.set_cons_zero, List.set_cons_succ, Nat.reduceAdd, Nat.reduceSub, if_true, if_false, ite_true, ite_false, Bool.not_true, Bool.not_false, Bool.and_true, Bool.and_false, Bool.false_eq_true, reduceIte, fin_same, finE_same, fin_new, atI_0, atI_1, atI_2, eqW_ofs, look_ofs, look_nil, dspC, newDc, inW, Option.isSome_some, Option.isSome_none, itM, forM, items_dl, items_dt, methL, methD, arg0, arg1, arg2, appendW, popW, listW, get_new, set_new, isLst_new, pow109, String.reduceBEq, String.reduceEq, Bool.false_or, Bool.true_or, Bool.or_false, Bool.or_true, ltW]
  simp only [List.length_map]
  by_cases hl : ks.length < ws.length
  · simp only [Int.ofNat_lt, hl, decide_true]
    simp only [szs, fnM, rawM, seqM, ifM, tvM, truM, binM, unM, appM, consA, nilA, varM, conM, retM, retN, asgM, expM, raiseM, passS, callF, app1, app2, noExc, isExc_d, isExc_c, bindS_ok, bindS_err, bindS_stuck, Res.bind_ok, Res.bind_err, Res.bind_stuck, onBl_bl, andT, orT, notT, andV, orV, notV, tupM, lstM, toDs, toD, asD_d, asD_new, frzW_d, newT, newL, slM, slW, someO, noneO, ixW, addW, subW, mulW, modW, cmpW, negW, lenW, intW, tabW, isNonB, isNonW, isNon_d, List.map_cons, List.map_nil, List.length_cons, List.length_nil, List.replicate, List.append_nil, List.nil_append, List.cons_append, List.getElem?_cons_zero, List.getElem?_cons_succ, List.set_cons_zero, List.set_cons_succ, Nat.reduceAdd, Nat.reduceSub, if_true, if_false, ite_true, ite_false, Bool.not_true, Bool.not_false, Bool.and_true, Bool.and_false, Bool.false_eq_true, reduceIte, fin_same, finE_same, fin_new, atI_0, atI_1, atI_2, eqW_ofs, look_ofs, look_nil, dspC, newDc, inW, Option.isSome_some, Option.isSome_none, itM, forM, items_dl, items_dt, methL, methD, arg0, arg1, arg2, appendW, popW, listW, get_new, set_new, isLst_new, pow109, String.reduceBEq, String.reduceEq, Bool.false_or, Bool.true_or, Bool.or_false, Bool.or_true]
    simp [needS]
  · simp only [Int.ofNat_lt, hl, decide_false]
    have e1 : ((ks.length : Int) - (ws.length : Int)) = ((ks.length - ws.length : Nat) : Int) := by omega
    simp only [szs, fnM, rawM, seqM, ifM, tvM, truM, binM, unM, appM, consA, nilA, varM, conM, retM, retN, asgM, expM, raiseM, passS, callF, app1, app2, noExc, isExc_d, isExc_c, bindS_ok, bindS_err, bindS_stuck, Res.bind_ok, Res.bind_err, Res.bind_stuck, onBl_bl, andT, orT, notT, andV, orV, notV, tupM, lstM, toDs, toD, asD_d, asD_new, frzW_d, newT, newL, slM, slW, someO, noneO, ixW, addW, subW, mulW, modW, cmpW, negW, lenW, intW, tabW, isNonB, isNonW, isNon_d, List.map_cons, List.map_nil, List.length_cons, List.length_nil, List.replicate, List.append_nil, List.nil_append, List.cons_append, List.getElem?_cons_zero, List.getElem?_cons_succ, List.set_cons_zero, List.set_cons_succ, Nat.reduceAdd, Nat.reduceSub, if_true, if_false, ite_true, ite_false, Bool.not_true, Bool.not_false, Bool.and_true, Bool.and_false, Bool.false_eq_true, reduceIte, fin_same, finE_same, fin_new, atI_0, atI_1, atI_2, eqW_ofs, look_ofs, look_nil, dspC, newDc, inW, Option.isSome_some, Option.isSome_none, itM, forM, items_dl, items_dt, methL, methD, arg0, arg1, arg2, appendW, popW, listW, get_new, set_new, isLst_new, pow109, String.reduceBEq, String.reduceEq, Bool.false_or, Bool.true_or, Bool.or_false, Bool.or_true, forM]
    rw [rng_ok _ _ st st ws.length (by simp only [szs, fnM, rawM, seqM, ifM, tvM, truM, binM, unM, appM, consA, nilA, varM, conM, retM, retN, asgM, expM, raiseM, passS, callF, app1, app2, noExc, isExc_d, isExc_c, bindS_ok, bindS_err, bindS_stuck, Res.bind_ok, Res.bind_err, Res.bind_stuck, onBl_bl, andT, orT, notT, andV, orV, notV, tupM, lstM, toDs, toD, asD_d, asD_new, frzW_d, newT, newL, slM, slW, someO, noneO, ixW, addW, subW, mulW, modW, cmpW, negW, lenW, intW, tabW, isNonB, isNonW, isNon_d, List.map_cons, List.map_nil, List.length_cons, List.length_nil, List.replicate, List.append_nil, List.nil_append, List.cons_append, List.getElem?_cons_zero, List.getElem?_cons_succ, List.set_cons_zero, List.set_cons_succ, Nat.reduceAdd, Nat.reduceSub, if_true, if_false, ite_true, ite_false, Bool.not_true, Bool.not_false, Bool.and_true, Bool.and_false, Bool.false_eq_true, reduceIte, fin_same, finE_same, fin_new, atI_0, atI_1, atI_2, eqW_ofs, look_ofs, look_nil, dspC, newDc, inW, Option.isSome_some, Option.isSome_none, itM, forM, items_dl, items_dt, methL, methD, arg0, arg1, arg2, appendW, popW, listW, get_new, set_new, isLst_new, pow109, String.reduceBEq, String.reduceEq, Bool.false_or, Bool.true_or, Bool.or_false, Bool.or_true]; simp only [List.length_map]) (by omega)]
    simp only [bindS_ok, List.length_map, e1]
    have hL := loop_any (t := .name 3) (body := (ifM (andT (tvM (binM (eqW true) (binM ixW (varM 1) (varM 3)) (conM (.str "")))) (tvM (binM (eqW true) (binM ixW (varM 1) (varM 3)) (binM ixW (varM 0) (binM (addW false) (varM 2) (varM 3)))))) (retM (conM (.str "kind"))) passS)) (st := st) (w := .d (.str "kind"))
      (fun env => ∃ x, env = [some (.d (.lst (ks.map Kd.enc))), some (.d (.lst (encL ws))), some (.d (.int ((ks.length - ws.length : Nat) : Int))), x])
      (fun x => match x with | .int i => (match ks[ks.length - ws.length + i.toNat]?, ws[i.toNat]? with | some k, some w => bad (k, w) | _, _ => false) | _ => false)
      (uptoD ws.length) _ (fun x hx env ⟨y, he⟩ => by
        obtain ⟨i, hi, rfl⟩ := mem_upto hx
        subst he
        refine ⟨_, rfl, ?_⟩
        have hk : ks.length - ws.length + i < ks.length := by omega
        have a1 : (encL ws)[i]? = some (.str (Str.ofString (encE ws[i]))) := by rw [List.getElem?_map, List.getElem?_eq_getElem hi]; rfl
        have a2 : (ks.map Kd.enc)[ks.length - ws.length + i]? = some (.str (Str.ofString (ks[ks.length - ws.length + i]).s)) := by rw [List.getElem?_map, List.getElem?_eq_getElem hk]; rfl
        have a3 : (((ks.length - ws.length : Nat) : Int) + (i : Int)) = ((ks.length - ws.length + i : Nat) : Int) := by omega
        simp only [Int.toNat_natCast, List.getElem?_eq_getElem hi, List.getElem?_eq_getElem hk]
        simp only [szs, fnM, rawM, seqM, ifM, tvM, truM, binM, unM, appM, consA, nilA, varM, conM, retM, retN, asgM, expM, raiseM, passS, callF, app1, app2, noExc, isExc_d, isExc_c, bindS_ok, bindS_err, bindS_stuck, Res.bind_ok, Res.bind_err, Res.bind_stuck, onBl_bl, andT, orT, notT, andV, orV, notV, tupM, lstM, toDs, toD, asD_d, asD_new, frzW_d, newT, newL, slM, slW, someO, noneO, ixW, addW, subW, mulW, modW, cmpW, negW, lenW, intW, tabW, isNonB, isNonW, isNon_d, List.map_cons, List.map_nil, List.length_cons, List.length_nil, List.replicate, List.append_nil, List.nil_append, List.cons_append, List.getElem?_cons_zero, List.getElem?_cons_succ, List.set_cons_zero, List.set_cons_succ, Nat.reduceAdd, Nat.reduceSub, if_true, if_false, ite_true, ite_false, Bool.not_true, Bool.not_false, Bool.and_true, Bool.and_false, Bool.false_eq_true, reduceIte, fin_same, finE_same, fin_new, atI_0, atI_1, atI_2, eqW_ofs, look_ofs, look_nil, dspC, newDc, inW, Option.isSome_some, Option.isSome_none, itM, forM, items_dl, items_dt, methL, methD, arg0, arg1, arg2, appendW, popW, listW, get_new, set_new, isLst_new, pow109, String.reduceBEq, String.reduceEq, Bool.false_or, Bool.true_or, Bool.or_false, Bool.or_true, atI_nat, a1, a2, a3]
        cases q : ws[i] with
        | none => right; exact ⟨rfl, _, by simp only [szs, fnM, rawM, seqM, ifM, tvM, truM, binM, unM, appM, consA, nilA, varM, conM, retM, retN, asgM, expM, raiseM, passS, callF, app1, app2, noExc, isExc_d, isExc_c, bindS_ok, bindS_err, bindS_stuck, Res.bind_ok, Res.bind_err, Res.bind_stuck, onBl_bl, andT, orT, notT, andV, orV, notV, tupM, lstM, toDs, toD, asD_d, asD_new, frzW_d, newT, newL, slM, slW, someO, noneO, ixW, addW, subW, mulW, modW, cmpW, negW, lenW, intW, tabW, isNonB, isNonW, isNon_d, List.map_cons, List.map_nil, List.length_cons, List.length_nil, List.replicate, List.append_nil, List.nil_append, List.cons_append, List.getElem?_cons_zero, List.getElem?_cons_succ, List.set_cons_zero, List.set_cons_succ, Nat.reduceAdd, Nat.reduceSub, if_true, if_false, ite_true, ite_false, Bool.not_true, Bool.not_false, Bool.and_true, Bool.and_false, Bool.false_eq_true, reduceIte, fin_same, finE_same, fin_new, atI_0, atI_1, atI_2, eqW_ofs, look_ofs, look_nil, dspC, newDc, inW, Option.isSome_some, Option.isSome_none, itM, forM, items_dl, items_dt, methL, methD, arg0, arg1, arg2, appendW, popW, listW, get_new, set_new, isLst_new, pow109, String.reduceBEq, String.reduceEq, Bool.false_or, Bool.true_or, Bool.or_false, Bool.or_true, encE]; simp; rfl, _, rfl⟩
        | some k =>
          cases q2 : ks[ks.length - ws.length + i] <;> cases k
          · right; exact ⟨rfl, _, by simp only [szs, fnM, rawM, seqM, ifM, tvM, truM, binM, unM, appM, consA, nilA, varM, conM, retM, retN, asgM, expM, raiseM, passS, callF, app1, app2, noExc, isExc_d, isExc_c, bindS_ok, bindS_err, bindS_stuck, Res.bind_ok, Res.bind_err, Res.bind_stuck, onBl_bl, andT, orT, notT, andV, orV, notV, tupM, lstM, toDs, toD, asD_d, asD_new, frzW_d, newT, newL, slM, slW, someO, noneO, ixW, addW, subW, mulW, modW, cmpW, negW, lenW, intW, tabW, isNonB, isNonW, isNon_d, List.map_cons, List.map_nil, List.length_cons, List.length_nil, List.replicate, List.append_nil, List.nil_append, List.cons_append, List.getElem?_cons_zero, List.getElem?_cons_succ, List.set_cons_zero, List.set_cons_succ, Nat.reduceAdd, Nat.reduceSub, if_true, if_false, ite_true, ite_false, Bool.not_true, Bool.not_false, Bool.and_true, Bool.and_false, Bool.false_eq_true, reduceIte, fin_same, finE_same, fin_new, atI_0, atI_1, atI_2, eqW_ofs, look_ofs, look_nil, dspC, newDc, inW, Option.isSome_some, Option.isSome_none, itM, forM, items_dl, items_dt, methL, methD, arg0, arg1, arg2, appendW, popW, listW, get_new, set_new, isLst_new, pow109, String.reduceBEq, String.reduceEq, Bool.false_or, Bool.true_or, Bool.or_false, Bool.or_true, encE, Kd.s]; simp; rfl, _, rfl⟩
          · left; exact ⟨by decide, by simp only [szs, fnM, rawM, seqM, ifM, tvM, truM, binM, unM, appM, consA, nilA, varM, conM, retM, retN, asgM, expM, raiseM, passS, callF, app1, app2, noExc, isExc_d, isExc_c, bindS_ok, bindS_err, bindS_stuck, Res.bind_ok, Res.bind_err, Res.bind_stuck, onBl_bl, andT, orT, notT, andV, orV, notV, tupM, lstM, toDs, toD, asD_d, asD_new, frzW_d, newT, newL, slM, slW, someO, noneO, ixW, addW, subW, mulW, modW, cmpW, negW, lenW, intW, tabW, isNonB, isNonW, isNon_d, List.map_cons, List.map_nil, List.length_cons, List.length_nil, List.replicate, List.append_nil, List.nil_append, List.cons_append, List.getElem?_cons_zero, List.getElem?_cons_succ, List.set_cons_zero, List.set_cons_succ, Nat.reduceAdd, Nat.reduceSub, if_true, if_false, ite_true, ite_false, Bool.not_true, Bool.not_false, Bool.and_true, Bool.and_false, Bool.false_eq_true, reduceIte, fin_same, finE_same, fin_new, atI_0, atI_1, atI_2, eqW_ofs, look_ofs, look_nil, dspC, newDc, inW, Option.isSome_some, Option.isSome_none, itM, forM, items_dl, items_dt, methL, methD, arg0, arg1, arg2, appendW, popW, listW, get_new, set_new, isLst_new, pow109, String.reduceBEq, String.reduceEq, Bool.false_or, Bool.true_or, Bool.or_false, Bool.or_true, encE, Kd.s]⟩
          · left; exact ⟨by decide, by simp only [szs, fnM, rawM, seqM, ifM, tvM, truM, binM, unM, appM, consA, nilA, varM, conM, retM, retN, asgM, expM, raiseM, passS, callF, app1, app2, noExc, isExc_d, isExc_c, bindS_ok, bindS_err, bindS_stuck, Res.bind_ok, Res.bind_err, Res.bind_stuck, onBl_bl, andT, orT, notT, andV, orV, notV, tupM, lstM, toDs, toD, asD_d, asD_new, frzW_d, newT, newL, slM, slW, someO, noneO, ixW, addW, subW, mulW, modW, cmpW, negW, lenW, intW, tabW, isNonB, isNonW, isNon_d, List.map_cons, List.map_nil, List.length_cons, List.length_nil, List.replicate, List.append_nil, List.nil_append, List.cons_append, List.getElem?_cons_zero, List.getElem?_cons_succ, List.set_cons_zero, List.set_cons_succ, Nat.reduceAdd, Nat.reduceSub, if_true, if_false, ite_true, ite_false, Bool.not_true, Bool.not_false, Bool.and_true, Bool.and_false, Bool.false_eq_true, reduceIte, fin_same, finE_same, fin_new, atI_0, atI_1, atI_2, eqW_ofs, look_ofs, look_nil, dspC, newDc, inW, Option.isSome_some, Option.isSome_none, itM, forM, items_dl, items_dt, methL, methD, arg0, arg1, arg2, appendW, popW, listW, get_new, set_new, isLst_new, pow109, String.reduceBEq, String.reduceEq, Bool.false_or, Bool.true_or, Bool.or_false, Bool.or_true, encE, Kd.s]⟩
          · right; exact ⟨rfl, _, by simp only [szs, fnM, rawM, seqM, ifM, tvM, truM, binM, unM, appM, consA, nilA, varM, conM, retM, retN, asgM, expM, raiseM, passS, callF, app1, app2, noExc, isExc_d, isExc_c, bindS_ok, bindS_err, bindS_stuck, Res.bind_ok, Res.bind_err, Res.bind_stuck, onBl_bl, andT, orT, notT, andV, orV, notV, tupM, lstM, toDs, toD, asD_d, asD_new, frzW_d, newT, newL, slM, slW, someO, noneO, ixW, addW, subW, mulW, modW, cmpW, negW, lenW, intW, tabW, isNonB, isNonW, isNon_d, List.map_cons, List.map_nil, List.length_cons, List.length_nil, List.replicate, List.append_nil, List.nil_append, List.cons_append, List.getElem?_cons_zero, List.getElem?_cons_succ, List.set_cons_zero, List.set_cons_succ, Nat.reduceAdd, Nat.reduceSub, if_true, if_false, ite_true, ite_false, Bool.not_true, Bool.not_false, Bool.and_true, Bool.and_false, Bool.false_eq_true, reduceIte, fin_same, finE_same, fin_new, atI_0, atI_1, atI_2, eqW_ofs, look_ofs, look_nil, dspC, newDc, inW, Option.isSome_some, Option.isSome_none, itM, forM, items_dl, items_dt, methL, methD, arg0, arg1, arg2, appendW, popW, listW, get_new, set_new, isLst_new, pow109, String.reduceBEq, String.reduceEq, Bool.false_or, Bool.true_or, Bool.or_false, Bool.or_true, encE, Kd.s]; simp; rfl, _, rfl⟩) ⟨none, rfl⟩
    have hany : (uptoD ws.length).any (fun x => match x with | .int i => (match ks[ks.length - ws.length + i.toNat]?, ws[i.toNat]? with | some k, some w => bad (k, w) | _, _ => false) | _ => false) = ((ks.drop (ks.length - ws.length)).zip ws).any bad := by
      rw [any_upto, Bool.eq_iff_iff, List.any_eq_true, List.any_eq_true]
      constructor
      · rintro ⟨i, hi, h⟩
        have hi := List.mem_range.mp hi
        have hk : ks.length - ws.length + i < ks.length := by omega
        simp only [Int.toNat_natCast, List.getElem?_eq_getElem hi, List.getElem?_eq_getElem hk] at h
        refine ⟨_, ?_, h⟩
        rw [List.mem_iff_getElem]
        refine ⟨i, by simp; omega, by simp⟩
      · rintro ⟨p, hp, h⟩
        rw [List.mem_iff_getElem] at hp
        obtain ⟨i, hi, rfl⟩ := hp
        simp at hi
        refine ⟨i, List.mem_range.mpr (by omega), ?_⟩
        have hi' : i < ws.length := by omega
        have hk : ks.length - ws.length + i < ks.length := by omega
        simp only [Int.toNat_natCast, List.getElem?_eq_getElem hi', List.getElem?_eq_getElem hk]
        simpa using h
    rw [hany] at hL
    rcases hL with ⟨h1, h2⟩ | ⟨h1, env', h2, _⟩
    · rw [h2]; simp [h1, fin_same, needS]
    · rw [h2]; simp only [szs, fnM, rawM, seqM, ifM, tvM, truM, binM, unM, appM, consA, nilA, varM, conM, retM, retN, asgM, expM, raiseM, passS, callF, app1, app2, noExc, isExc_d, isExc_c, bindS_ok, bindS_err, bindS_stuck, Res.bind_ok, Res.bind_err, Res.bind_stuck, onBl_bl, andT, orT, notT, andV, orV, notV, tupM, lstM, toDs, toD, asD_d, asD_new, frzW_d, newT, newL, slM, slW, someO, noneO, ixW, addW, subW, mulW, modW, cmpW, negW, lenW, intW, tabW, isNonB, isNonW, isNon_d, List.map_cons, List.map_nil, List.length_cons, List.length_nil, List.replicate, List.append_nil, List.nil_append, List.cons_append, List.getElem?_cons_zero, List.getElem?_cons_succ, List.set_cons_zero, List.set_cons_succ, Nat.reduceAdd, Nat.reduceSub, if_true, if_false, ite_true, ite_false, Bool.not_true, Bool.not_false, Bool.and_true, Bool.and_false, Bool.false_eq_true, reduceIte, fin_same, finE_same, fin_new, atI_0, atI_1, atI_2, eqW_ofs, look_ofs, look_nil, dspC, newDc, inW, Option.isSome_some, Option.isSome_none, itM, forM, items_dl, items_dt, methL, methD, arg0, arg1, arg2, appendW, popW, listW, get_new, set_new, isLst_new, pow109, String.reduceBEq, String.reduceEq, Bool.false_or, Bool.true_or, Bool.or_false, Bool.or_true]; simp [h1, needS]
end Py

namespace Py
open PySem L2
/-- its texts are texts -/
def Val.fine : Val → Prop | .i _ => True | .s t => PyData.strOk t = true
theorem Val.ok.fine {v : Val} (h : v.ok) : v.fine := by
  cases v with
  | i _ => trivial
  | s _ => exact h.1
theorem eqW_bl (neg : Bool) (a b : Bool) (st : Store) : eqW neg (.d (.bl a)) (.d (.bl b)) st = .ok (.d (.bl (if neg then !(a == b) else a == b))) st := by
  unfold eqW eqD
  simp [asD, D.fine, D.dep, D.eqv]
theorem eqW_int (neg : Bool) (a b : Int) (st : Store) : eqW neg (.d (.int a)) (.d (.int b)) st = .ok (.d (.bl (if neg then !(a == b) else a == b))) st := by
  unfold eqW eqD
  simp [asD, D.fine, D.dep, D.eqv]
/-! ### draws -/
abbrev tc (t : Int) : Cell := .lst [.int t]
theorem asD_set {st : Store} {k : Nat} {xs : List D} (h : k < st.length) : asD (st.set k (.lst xs)) (.c k) = some (.lst xs) := by
  simp [asD, h]
theorem fin_set (st : Store) (x : D) (k : Nat) (xs : List D) : fin st (.d x) (st.set k (.lst xs)) = .ok (.d x) (st.set k (.lst xs)) := by
  unfold fin
  rw [if_pos]
  · simp only
    rw [List.take_of_length_le (by rw [List.length_set]; exact Nat.le_refl _)]
  · refine ⟨by rw [List.length_set]; exact Nat.le_refl _, fun j fs hj h => ?_⟩
    rw [List.getElem?_set] at h
    split at h
    · split at h
      · cases h
      · cases h
    · exact h
theorem ixN10 : ixN 1 0 = some 0 := rfl
theorem draw_ok (ns : List Int) (k : Nat) (t m : Int) (st : Store) (hk : st[k]? = some (tc t)) (h0 : 0 ≤ t) (h1 : t ≤ 1000000) (hm : 0 < m) :
    ∃ v, 0 ≤ v ∧ v < m ∧ s_draw [.d (.scr ns), .c k, .d (.int m)] st = .ok (.d (.int v)) (st.set k (tc (t + 1))) := by
  have hlt : k < st.length := (List.getElem?_eq_some_iff.mp hk).1
  have hg : (st.set k (tc (t + 1)))[k]? = some (tc (t + 1)) := by simp [hlt]
  have ha : asD st (.c k) = some (.lst [.int t]) := by simp [asD, hk]
  have hb : asD (st.set k (tc (t + 1))) (.c k) = some (.lst [.int (t + 1)]) := asD_set hlt
  unfold s_draw b_draw
  have hb' : asD (st.set k (.lst [.int (t + 1)])) (.c k) = some (.lst [.int (t + 1)]) := hb
  have hg' : (st.set k (.lst [.int (t + 1)]))[k]? = some (.lst [.int (t + 1)]) := hg
  by_cases c : t + 1 ≤ (ns.length : Int)
  · have hi : t.toNat < ns.length := by omega
    have e1 : atI ns (t + 1 - 1) = some (ns[t.toNat]) := by
      have : t + 1 - 1 = ((t.toNat : Nat) : Int) := by omega
      rw [this, atI_nat, List.getElem?_eq_getElem hi]
    refine ⟨ns[t.toNat] % m, Int.emod_nonneg _ (by omega), Int.emod_lt_of_pos _ hm, ?_⟩
    simp only [szs, fnM, rawM, seqM, ifM, tvM, truM, binM, unM, appM, consA, nilA, varM, conM, retM, retN, asgM, expM, raiseM, passS, callF, app1, app2, noExc, isExc_d, isExc_c, bindS_ok, bindS_err, bindS_stuck, Res.bind_ok, Res.bind_err, Res.bind_stuck, onBl_bl, andT, orT, notT, andV, orV, notV, tupM, lstM, toDs, toD, asD_d, asD_new, frzW_d, newT, newL, slM, slW, someO, noneO, ixW, addW, subW, mulW, modW, cmpW, negW, lenW, intW, tabW, isNonB, isNonW, isNon_d, List.map_cons, List.map_nil, List.length_cons, List.length_nil, List.replicate, List.append_nil, List.nil_append, List.cons_append, List.getElem?_cons_zero, List.getElem?_cons_succ, List.set_cons_zero, List.set_cons_succ, Nat.reduceAdd, Nat.reduceSub, if_true, if_false, ite_true, ite_false, Bool.not_true, Bool.not_false, Bool.and_true, Bool.and_false, Bool.false_eq_true, reduceIte, fin_same, finE_same, fin_new, atI_0, atI_1, atI_2, eqW_ofs, look_ofs, look_nil, dspC, newDc, inW, Option.isSome_some, Option.isSome_none, itM, forM, items_dl, items_dt, methL, methD, arg0, arg1, arg2, appendW, popW, listW, get_new, set_new, isLst_new, pow109, String.reduceBEq, String.reduceEq, Bool.false_or, Bool.true_or, Bool.or_false, Bool.or_true, setLM, ha, hk, ixN10, List.set_cons_zero, hb', leW, c, decide_true, e1, hm, fin_set]
  · have c' : (decide (t + 1 ≤ (ns.length : Int))) = false := decide_eq_false c
    have hsz : ((cut ns none (some 4)).map D.int).length ≤ sizeLine := by
      rw [List.length_map, show (some (4 : Int)) = some ((4 : Nat) : Int) from rfl, cut_to]
      exact small (by rw [List.length_take]; omega)
    obtain ⟨env', st', h1, h2⟩ := loop_inv (t := .name 4) (body := (asgM 3 (binM modW (binM (addW false) (binM (mulW false) (varM 3) (conM (.int 131))) (varM 4)) (conM (.int 1000003)))))
      (fun ys env s1 => s1 = st.set k (.lst [.int (t + 1)]) ∧ (∃ y x, env = [some (.d (.scr ns)), some (.c k), some (.d (.int m)), some (.d (.int y)), x]) ∧ ∀ y ∈ ys, ∃ i : Int, y = .int i) ((cut ns none (some 4)).map .int) [some (.d (.scr ns)), some (.c k), some (.d (.int m)), some (.d (.int ns.length)), none] (st.set k (.lst [.int (t + 1)]))
      (fun x ys env s1 ⟨q1, ⟨y, z, q2⟩, q3⟩ => by
        obtain ⟨i, rfl⟩ := q3 x List.mem_cons_self
        subst q1 q2
        refine ⟨_, [some (.d (.scr ns)), some (.c k), some (.d (.int m)), some (.d (.int ((y * 131 + i) % 1000003))), some (.d (.int i))], _, rfl, ?_, rfl, ⟨_, _, rfl⟩, fun y hy => q3 y (List.mem_cons_of_mem _ hy)⟩
        simp only [szs, fnM, rawM, seqM, ifM, tvM, truM, binM, unM, appM, consA, nilA, varM, conM, retM, retN, asgM, expM, raiseM, passS, callF, app1, app2, noExc, isExc_d, isExc_c, bindS_ok, bindS_err, bindS_stuck, Res.bind_ok, Res.bind_err, Res.bind_stuck, onBl_bl, andT, orT, notT, andV, orV, notV, tupM, lstM, toDs, toD, asD_d, asD_new, frzW_d, newT, newL, slM, slW, someO, noneO, ixW, addW, subW, mulW, modW, cmpW, negW, lenW, intW, tabW, isNonB, isNonW, isNon_d, List.map_cons, List.map_nil, List.length_cons, List.length_nil, List.replicate, List.append_nil, List.nil_append, List.cons_append, List.getElem?_cons_zero, List.getElem?_cons_succ, List.set_cons_zero, List.set_cons_succ, Nat.reduceAdd, Nat.reduceSub, if_true, if_false, ite_true, ite_false, Bool.not_true, Bool.not_false, Bool.and_true, Bool.and_false, Bool.false_eq_true, reduceIte, fin_same, finE_same, fin_new, atI_0, atI_1, atI_2, eqW_ofs, look_ofs, look_nil, dspC, newDc, inW, Option.isSome_some, Option.isSome_none, itM, forM, items_dl, items_dt, methL, methD, arg0, arg1, arg2, appendW, popW, listW, get_new, set_new, isLst_new, pow109, String.reduceBEq, String.reduceEq, Bool.false_or, Bool.true_or, Bool.or_false, Bool.or_true, mulOk_r (i := y) (j := 131) (by decide) (by decide), show ((0 : Int) < 1000003) = True from by simp])
      ⟨rfl, ⟨_, _, rfl⟩, fun y hy => by obtain ⟨i, _, rfl⟩ := List.mem_map.mp hy; exact ⟨i, rfl⟩⟩
    obtain ⟨rfl, ⟨y, x, rfl⟩, _⟩ := h2
    have tt : 0 ≤ (t + 1) * (t + 1) ∧ (t + 1) * (t + 1) ≤ 1000001 * 1000001 := ⟨Int.mul_nonneg (by omega) (by omega), Int.mul_le_mul (by omega) (by omega) (by omega) (by decide)⟩
    have m1 : mulOk (t + 1) (t + 1) = true := mulOk_l (by omega) (by omega)
    have m2 : mulOk (y + 7) ((t + 1) * (t + 1) + 48271) = true := mulOk_r (by omega) (by omega)
    refine ⟨(y + 7) * ((t + 1) * (t + 1) + 48271) % 1000003 % m, Int.emod_nonneg _ (by omega), Int.emod_lt_of_pos _ hm, ?_⟩
    simp only [szs, fnM, rawM, seqM, ifM, tvM, truM, binM, unM, appM, consA, nilA, varM, conM, retM, retN, asgM, expM, raiseM, passS, callF, app1, app2, noExc, isExc_d, isExc_c, bindS_ok, bindS_err, bindS_stuck, Res.bind_ok, Res.bind_err, Res.bind_stuck, onBl_bl, andT, orT, notT, andV, orV, notV, tupM, lstM, toDs, toD, asD_d, asD_new, frzW_d, newT, newL, slM, slW, someO, noneO, ixW, addW, subW, mulW, modW, cmpW, negW, lenW, intW, tabW, isNonB, isNonW, isNon_d, List.map_cons, List.map_nil, List.length_cons, List.length_nil, List.replicate, List.append_nil, List.nil_append, List.cons_append, List.getElem?_cons_zero, List.getElem?_cons_succ, List.set_cons_zero, List.set_cons_succ, Nat.reduceAdd, Nat.reduceSub, if_true, if_false, ite_true, ite_false, Bool.not_true, Bool.not_false, Bool.and_true, Bool.and_false, Bool.false_eq_true, reduceIte, fin_same, finE_same, fin_new, atI_0, atI_1, atI_2, eqW_ofs, look_ofs, look_nil, dspC, newDc, inW, Option.isSome_some, Option.isSome_none, itM, forM, items_dl, items_dt, methL, methD, arg0, arg1, arg2, appendW, popW, listW, get_new, set_new, isLst_new, pow109, String.reduceBEq, String.reduceEq, Bool.false_or, Bool.true_or, Bool.or_false, Bool.or_true, setLM, ha, hk, ixN10, List.set_cons_zero, hb', leW, c', hsz]
    rw [h1]
    simp only [szs, fnM, rawM, seqM, ifM, tvM, truM, binM, unM, appM, consA, nilA, varM, conM, retM, retN, asgM, expM, raiseM, passS, callF, app1, app2, noExc, isExc_d, isExc_c, bindS_ok, bindS_err, bindS_stuck, Res.bind_ok, Res.bind_err, Res.bind_stuck, onBl_bl, andT, orT, notT, andV, orV, notV, tupM, lstM, toDs, toD, asD_d, asD_new, frzW_d, newT, newL, slM, slW, someO, noneO, ixW, addW, subW, mulW, modW, cmpW, negW, lenW, intW, tabW, isNonB, isNonW, isNon_d, List.map_cons, List.map_nil, List.length_cons, List.length_nil, List.replicate, List.append_nil, List.nil_append, List.cons_append, List.getElem?_cons_zero, List.getElem?_cons_succ, List.set_cons_zero, List.set_cons_succ, Nat.reduceAdd, Nat.reduceSub, if_true, if_false, ite_true, ite_false, Bool.not_true, Bool.not_false, Bool.and_true, Bool.and_false, Bool.false_eq_true, reduceIte, fin_same, finE_same, fin_new, atI_0, atI_1, atI_2, eqW_ofs, look_ofs, look_nil, dspC, newDc, inW, Option.isSome_some, Option.isSome_none, itM, forM, items_dl, items_dt, methL, methD, arg0, arg1, arg2, appendW, popW, listW, get_new, set_new, isLst_new, pow109, String.reduceBEq, String.reduceEq, Bool.false_or, Bool.true_or, Bool.or_false, Bool.or_true, hb', m1, m2, hm, show ((0 : Int) < 1000003) = True from by simp, fin_set]
end Py

namespace Py
open PySem L2
theorem strOk_append {a b : Str} (ha : PyData.strOk a = true) (hb : PyData.strOk b = true) : PyData.strOk (a ++ b) = true := by
  unfold PyData.strOk at ha hb ⊢
  rw [← Array.all_toList] at ha hb ⊢
  show ((a.cps ++ b.cps).toList.all _) = true
  rw [Array.toList_append, List.all_append, ha, hb]; rfl
theorem joinE : ∀ (ys : List Str), (∀ y ∈ ys, PyData.strOk y = true ∧ y.length = 1) → PyData.strOk (Str.join (Str.ofString "") ys) = true ∧ (Str.join (Str.ofString "") ys).length = ys.length
  | [], _ => ⟨by show PyData.strOk Str.empty = true; decide +kernel, rfl⟩
  | [x], h => h x (by simp)
  | x :: y :: r, h => by
    obtain ⟨h1, h2⟩ := joinE (y :: r) (fun z hz => h z (List.mem_cons_of_mem x hz))
    obtain ⟨h3, h4⟩ := h x (by simp)
    show PyData.strOk (x ++ Str.ofString "" ++ Str.join (Str.ofString "") (y :: r)) = true ∧ (x ++ Str.ofString "" ++ Str.join (Str.ofString "") (y :: r)).length = _
    refine ⟨strOk_append (strOk_append h3 (strOk_of "")) h1, ?_⟩
    rw [Str.length_append, Str.length_append, h4, h2]
    show 1 + 0 + (r.length + 1) = r.length + 1 + 1
    omega
def signs : Str := Str.ofString "abcdefghijklmnopqrstuvwxyzABCDEFGHIJKLMNOPQRSTUVWXYZ0123456789" ++ Str.ofString " .,;:!?'\"()[]{}<>+-*/=&|^~_#$@\\`"
theorem signs_len : signs.cps.toList.length = 94 := by decide +kernel
theorem signs_ok : ∀ c ∈ signs.cps.toList, c < 0x110000 := by decide +kernel
theorem signs_fit : (Str.ofString "abcdefghijklmnopqrstuvwxyzABCDEFGHIJKLMNOPQRSTUVWXYZ0123456789").length + (Str.ofString " .,;:!?'\"()[]{}<>+-*/=&|^~_#$@\\`").length ≤ sizeLine := by decide +kernel
theorem signs_fit2 : signs.length ≤ sizeLine := by decide +kernel
theorem strsOf_map (f : Nat → Str) : ∀ (l : List Nat), strsOf (l.map fun i => D.str (f i)) = some (l.map f)
  | [] => rfl
  | i :: l => by
    show (strsOf (l.map fun i => D.str (f i))).map (f i :: ·) = _
    rw [strsOf_map f l]; rfl
theorem sum_ones : ∀ (ys : List Str), (∀ y ∈ ys, y.length = 1) → (ys.map (·.length)).sum = ys.length
  | [], _ => rfl
  | y :: r, h => by
    rw [List.map_cons, List.sum_cons, h y (by simp), sum_ones r (fun z hz => h z (List.mem_cons_of_mem y hz)), List.length_cons]
    omega
theorem words_ok (cell : Int) (n : Nat) (st : Store) (hn : n ≤ 1000) : ∃ t, PyData.strOk t = true ∧ t.length = n ∧ s_words [.d (.int cell), .d (.int n)] st = .ok (.d (.str t)) st := by
  let f : Nat → Str := fun i => ⟨#[(signs.cps.toList[((cell / ((i : Int) + 1) + 5 * (i : Int)) % 94).toNat]?).getD 0]⟩
  have hf : ∀ y ∈ (List.range n).map f, PyData.strOk y = true ∧ y.length = 1 := by
    intro y hy
    obtain ⟨i, _, rfl⟩ := List.mem_map.mp hy
    refine ⟨?_, rfl⟩
    have h0 := Int.emod_nonneg (cell / ((i : Int) + 1) + 5 * (i : Int)) (show (94 : Int) ≠ 0 by decide)
    have h1 := Int.emod_lt_of_pos (cell / ((i : Int) + 1) + 5 * (i : Int)) (show (0 : Int) < 94 by decide)
    have hlt : ((cell / ((i : Int) + 1) + 5 * (i : Int)) % 94).toNat < signs.cps.toList.length := by rw [signs_len]; omega
    unfold PyData.strOk
    rw [← Array.all_toList]
    show (decide ((signs.cps.toList[((cell / ((i : Int) + 1) + 5 * (i : Int)) % 94).toNat]?).getD 0 < 0x110000) && true) = true
    rw [List.getElem?_eq_getElem hlt]
    have := signs_ok _ (List.getElem_mem hlt)
    simp only [Option.getD_some, Bool.and_true, decide_eq_true_eq]
    exact this
  obtain ⟨g1, g2⟩ := joinE _ hf
  refine ⟨Txt.join (Str.ofString "") ((List.range n).map f), by rw [TL.join_eq]; exact g1, by rw [TL.join_eq, g2]; simp, ?_⟩
  have hm : uptoD n = (List.range n).map fun i : Nat => D.int (i : Int) := rfl
  have hl : lcLoop 3 yesT (binM ixW (varM 2) (binM modW (binM (addW false) (binM fdivW (varM 0) (binM (addW false) (varM 3) (conM (.int 1)))) (binM (mulW false) (conM (.int 5)) (varM 3))) (conM (.int 94)))) (uptoD n) [] [some (.d (.int cell)), some (.d (.int n)), some (.d (.str signs)), none] st
      = .ok ((List.range n).map fun i => D.str (f i)) st := by
    rw [lcLoop_map (fun x => match x with | .int i => .str (f i.toNat) | _ => .non) (uptoD n) (fun x hx => ?_) (by unfold uptoD; rw [List.length_map, List.length_range]; exact small (by omega))]
    · rw [hm, List.map_map]; rfl
    · obtain ⟨i, hi, rfl⟩ := mem_upto hx
      have h0 := Int.emod_nonneg (cell / ((i : Int) + 1) + 5 * (i : Int)) (show (94 : Int) ≠ 0 by decide)
      have h1 := Int.emod_lt_of_pos (cell / ((i : Int) + 1) + 5 * (i : Int)) (show (0 : Int) < 94 by decide)
      have hlt : ((cell / ((i : Int) + 1) + 5 * (i : Int)) % 94).toNat < signs.cps.toList.length := by rw [signs_len]; omega
      have e1 : atI signs.cps.toList ((cell / ((i : Int) + 1) + 5 * (i : Int)) % 94) = some (signs.cps.toList[((cell / ((i : Int) + 1) + 5 * (i : Int)) % 94).toNat]) := by
        have := atI_nat signs.cps.toList ((cell / ((i : Int) + 1) + 5 * (i : Int)) % 94).toNat
        rw [Int.toNat_of_nonneg h0] at this
        rw [this, List.getElem?_eq_getElem hlt]
      simp only [szs, fnM, rawM, seqM, ifM, tvM, truM, binM, unM, appM, consA, nilA, varM, conM, retM, retN, asgM, expM, raiseM, passS, callF, app1, app2, noExc, isExc_d, isExc_c, bindS_ok, bindS_err, bindS_stuck, Res.bind_ok, Res.bind_err, Res.bind_stuck, onBl_bl, andT, orT, notT, andV, orV, notV, tupM, lstM, toDs, toD, asD_d, asD_new, frzW_d, newT, newL, slM, slW, someO, noneO, ixW, addW, subW, mulW, modW, cmpW, negW, lenW, intW, tabW, isNonB, isNonW, isNon_d, List.map_cons, List.map_nil, List.length_cons, List.length_nil, List.replicate, List.append_nil, List.nil_append, List.cons_append, List.getElem?_cons_zero, List.getElem?_cons_succ, List.set_cons_zero, List.set_cons_succ, Nat.reduceAdd, Nat.reduceSub, if_true, if_false, ite_true, ite_false, Bool.not_true, Bool.not_false, Bool.and_true, Bool.and_false, Bool.false_eq_true, reduceIte, fin_same, finE_same, fin_new, atI_0, atI_1, atI_2, eqW_ofs, look_ofs, look_nil, dspC, newDc, inW, Option.isSome_some, Option.isSome_none, itM, forM, items_dl, items_dt, methL, methD, arg0, arg1, arg2, appendW, popW, listW, get_new, set_new, isLst_new, pow109, String.reduceBEq, String.reduceEq, Bool.false_or, Bool.true_or, Bool.or_false, Bool.or_true, fdivW, fdvOk_of (k := (i : Int) + 1) (by omega) (by omega), mulOk_l (i := 5) (j := (i : Int)) (by decide) (by decide), show ((0 : Int) < 94) = True from by simp, signs_fit2, e1]
      simp only [f, Int.toNat_natCast, List.getElem?_eq_getElem hlt, Option.getD_some]
  unfold s_words b_words
  simp only [szs, fnM, rawM, seqM, ifM, tvM, truM, binM, unM, appM, consA, nilA, varM, conM, retM, retN, asgM, expM, raiseM, passS, callF, app1, app2, noExc, isExc_d, isExc_c, bindS_ok, bindS_err, bindS_stuck, Res.bind_ok, Res.bind_err, Res.bind_stuck, onBl_bl, andT, orT, notT, andV, orV, notV, tupM, lstM, toDs, toD, asD_d, asD_new, frzW_d, newT, newL, slM, slW, someO, noneO, ixW, addW, subW, mulW, modW, cmpW, negW, lenW, intW, tabW, isNonB, isNonW, isNon_d, List.map_cons, List.map_nil, List.length_cons, List.length_nil, List.replicate, List.append_nil, List.nil_append, List.cons_append, List.getElem?_cons_zero, List.getElem?_cons_succ, List.set_cons_zero, List.set_cons_succ, Nat.reduceAdd, Nat.reduceSub, if_true, if_false, ite_true, ite_false, Bool.not_true, Bool.not_false, Bool.and_true, Bool.and_false, Bool.false_eq_true, reduceIte, fin_same, finE_same, fin_new, atI_0, atI_1, atI_2, eqW_ofs, look_ofs, look_nil, dspC, newDc, inW, Option.isSome_some, Option.isSome_none, itM, forM, items_dl, items_dt, methL, methD, arg0, arg1, arg2, appendW, popW, listW, get_new, set_new, isLst_new, pow109, String.reduceBEq, String.reduceEq, Bool.false_or, Bool.true_or, Bool.or_false, Bool.or_true, signs_fit, lcM]
  rw [rng_ok _ _ st st n (by simp only [szs, fnM, rawM, seqM, ifM, tvM, truM, binM, unM, appM, consA, nilA, varM, conM, retM, retN, asgM, expM, raiseM, passS, callF, app1, app2, noExc, isExc_d, isExc_c, bindS_ok, bindS_err, bindS_stuck, Res.bind_ok, Res.bind_err, Res.bind_stuck, onBl_bl, andT, orT, notT, andV, orV, notV, tupM, lstM, toDs, toD, asD_d, asD_new, frzW_d, newT, newL, slM, slW, someO, noneO, ixW, addW, subW, mulW, modW, cmpW, negW, lenW, intW, tabW, isNonB, isNonW, isNon_d, List.map_cons, List.map_nil, List.length_cons, List.length_nil, List.replicate, List.append_nil, List.nil_append, List.cons_append, List.getElem?_cons_zero, List.getElem?_cons_succ, List.set_cons_zero, List.set_cons_succ, Nat.reduceAdd, Nat.reduceSub, if_true, if_false, ite_true, ite_false, Bool.not_true, Bool.not_false, Bool.and_true, Bool.and_false, Bool.false_eq_true, reduceIte, fin_same, finE_same, fin_new, atI_0, atI_1, atI_2, eqW_ofs, look_ofs, look_nil, dspC, newDc, inW, Option.isSome_some, Option.isSome_none, itM, forM, items_dl, items_dt, methL, methD, arg0, arg1, arg2, appendW, popW, listW, get_new, set_new, isLst_new, pow109, String.reduceBEq, String.reduceEq, Bool.false_or, Bool.true_or, Bool.or_false, Bool.or_true]) (by omega)]
  simp only [Res.bind_ok]
  rw [show (Str.ofString "abcdefghijklmnopqrstuvwxyzABCDEFGHIJKLMNOPQRSTUVWXYZ0123456789" ++ Str.ofString " .,;:!?'\"()[]{}<>+-*/=&|^~_#$@\\`") = signs from rfl, hl]
  have hz : (List.map (fun i => D.str (f i)) (List.range n)).length ≤ sizeLine := by rw [List.length_map, List.length_range]; exact small (by omega)
  have hj : (((List.range n).map f).map (·.length)).sum + ((List.range n).map f).length * (Str.ofString "").length ≤ 16777216 := by
    rw [sum_ones _ (fun y hy => (hf y hy).2), List.length_map, List.length_range]
    show n + n * 0 ≤ _
    omega
  simp only [szs, fnM, rawM, seqM, ifM, tvM, truM, binM, unM, appM, consA, nilA, varM, conM, retM, retN, asgM, expM, raiseM, passS, callF, app1, app2, noExc, isExc_d, isExc_c, bindS_ok, bindS_err, bindS_stuck, Res.bind_ok, Res.bind_err, Res.bind_stuck, onBl_bl, andT, orT, notT, andV, orV, notV, tupM, lstM, toDs, toD, asD_d, asD_new, frzW_d, newT, newL, slM, slW, someO, noneO, ixW, addW, subW, mulW, modW, cmpW, negW, lenW, intW, tabW, isNonB, isNonW, isNon_d, List.map_cons, List.map_nil, List.length_cons, List.length_nil, List.replicate, List.append_nil, List.nil_append, List.cons_append, List.getElem?_cons_zero, List.getElem?_cons_succ, List.set_cons_zero, List.set_cons_succ, Nat.reduceAdd, Nat.reduceSub, if_true, if_false, ite_true, ite_false, Bool.not_true, Bool.not_false, Bool.and_true, Bool.and_false, Bool.false_eq_true, reduceIte, fin_same, finE_same, fin_new, atI_0, atI_1, atI_2, eqW_ofs, look_ofs, look_nil, dspC, newDc, inW, Option.isSome_some, Option.isSome_none, itM, forM, items_dl, items_dt, methL, methD, arg0, arg1, arg2, appendW, popW, listW, get_new, set_new, isLst_new, pow109, String.reduceBEq, String.reduceEq, Bool.false_or, Bool.true_or, Bool.or_false, Bool.or_true, hz, joinS, strsOf_map, hj]
theorem get_set {st : Store} {k : Nat} {c : Cell} (h : k < st.length) : (st.set k c)[k]? = some c := by simp [h]
theorem set_set' (st : Store) (k : Nat) (c c' : Cell) : (st.set k c).set k c' = st.set k c' := by simp
/-- a draw, drawn -/
theorem draw2 (ns : List Int) (k : Nat) (t m : Int) (st : Store) (h : k < st.length) (h0 : 0 ≤ t) (h1 : t ≤ 1000000) (hm : 0 < m) :
    ∃ v, 0 ≤ v ∧ v < m ∧ s_draw [.d (.scr ns), .c k, .d (.int m)] (st.set k (tc t)) = .ok (.d (.int v)) (st.set k (tc (t + 1))) := by
  obtain ⟨v, a, b, e⟩ := draw_ok ns k t m (st.set k (tc t)) (get_set h) h0 h1 hm
  exact ⟨v, a, b, by rw [e, set_set']⟩
theorem value_ok (ns : List Int) (k : Nat) (t : Int) (kd : Kd) (st : Store) (hk : k < st.length) (h0 : 0 ≤ t) (h1 : t ≤ 999000) :
    ∃ v : Val, v.ok ∧ v.kd = kd ∧ s_value [.d (.scr ns), .c k, .d kd.enc] (st.set k (tc t)) = .ok (.d v.enc) (st.set k (tc (t + 2))) := by
  obtain ⟨a, a0, a1, ea⟩ := draw2 ns k t 1000000000 st hk h0 (by omega) (by decide)
  obtain ⟨b, b0, b1, eb⟩ := draw2 ns k (t + 1) 6 st hk (by omega) (by omega) (by decide)
  have et : t + 1 + 1 = t + 2 := by omega
  rw [et] at eb
  have p3 : ((0 : Int) < 3) = True := by simp
  have p4 : ((0 : Int) < 4) = True := by simp
  have p8 : ((0 : Int) < 8) = True := by simp
  have fs : ∀ x : D, fin (st.set k (tc t)) (.d x) (st.set k (tc (t + 2))) = .ok (.d x) (st.set k (tc (t + 2))) := fun x => by
    rw [← set_set' st k (tc t) (tc (t + 2))]; exact fin_set _ _ _ _
  cases kd with
  | text =>
    by_cases hb : b = 0
    · have m0 := Int.emod_nonneg a (show (3 : Int) ≠ 0 by decide)
      have m1 := Int.emod_lt_of_pos a (show (0 : Int) < 3 by decide)
      obtain ⟨s, s1, s2, e⟩ := words_ok a (58 + a % 3).toNat (st.set k (tc (t + 2))) (by omega)
      rw [Int.toNat_of_nonneg (by omega)] at e
      refine ⟨.s s, ⟨s1, by omega⟩, rfl, ?_⟩
      unfold s_value b_value
      subst hb
      simp only [szs, fnM, rawM, seqM, ifM, tvM, truM, binM, unM, appM, consA, nilA, varM, conM, retM, retN, asgM, expM, raiseM, passS, callF, app1, app2, noExc, isExc_d, isExc_c, bindS_ok, bindS_err, bindS_stuck, Res.bind_ok, Res.bind_err, Res.bind_stuck, onBl_bl, andT, orT, notT, andV, orV, notV, tupM, lstM, toDs, toD, asD_d, asD_new, frzW_d, newT, newL, slM, slW, someO, noneO, ixW, addW, subW, mulW, modW, cmpW, negW, lenW, intW, tabW, isNonB, isNonW, isNon_d, List.map_cons, List.map_nil, List.length_cons, List.length_nil, List.replicate, List.append_nil, List.nil_append, List.cons_append, List.getElem?_cons_zero, List.getElem?_cons_succ, List.set_cons_zero, List.set_cons_succ, Nat.reduceAdd, Nat.reduceSub, if_true, if_false, ite_true, ite_false, Bool.not_true, Bool.not_false, Bool.and_true, Bool.and_false, Bool.false_eq_true, reduceIte, fin_same, finE_same, fin_new, atI_0, atI_1, atI_2, eqW_ofs, look_ofs, look_nil, dspC, newDc, inW, Option.isSome_some, Option.isSome_none, itM, forM, items_dl, items_dt, methL, methD, arg0, arg1, arg2, appendW, popW, listW, get_new, set_new, isLst_new, pow109, String.reduceBEq, String.reduceEq, Bool.false_or, Bool.true_or, Bool.or_false, Bool.or_true, Kd.enc, Kd.s, ea, eb, eqW_int, beq_self_eq_true, p3, e, Val.enc, fs]
    · have m0 := Int.emod_nonneg (a / 94) (show (8 : Int) ≠ 0 by decide)
      have m1 := Int.emod_lt_of_pos (a / 94) (show (0 : Int) < 8 by decide)
      obtain ⟨s, s1, s2, e⟩ := words_ok a (a / 94 % 8).toNat (st.set k (tc (t + 2))) (by omega)
      rw [Int.toNat_of_nonneg (by omega)] at e
      refine ⟨.s s, ⟨s1, by omega⟩, rfl, ?_⟩
      have hb' : (b == 0) = false := by simpa using hb
      unfold s_value b_value
      simp only [szs, fnM, rawM, seqM, ifM, tvM, truM, binM, unM, appM, consA, nilA, varM, conM, retM, retN, asgM, expM, raiseM, passS, callF, app1, app2, noExc, isExc_d, isExc_c, bindS_ok, bindS_err, bindS_stuck, Res.bind_ok, Res.bind_err, Res.bind_stuck, onBl_bl, andT, orT, notT, andV, orV, notV, tupM, lstM, toDs, toD, asD_d, asD_new, frzW_d, newT, newL, slM, slW, someO, noneO, ixW, addW, subW, mulW, modW, cmpW, negW, lenW, intW, tabW, isNonB, isNonW, isNon_d, List.map_cons, List.map_nil, List.length_cons, List.length_nil, List.replicate, List.append_nil, List.nil_append, List.cons_append, List.getElem?_cons_zero, List.getElem?_cons_succ, List.set_cons_zero, List.set_cons_succ, Nat.reduceAdd, Nat.reduceSub, if_true, if_false, ite_true, ite_false, Bool.not_true, Bool.not_false, Bool.and_true, Bool.and_false, Bool.false_eq_true, reduceIte, fin_same, finE_same, fin_new, atI_0, atI_1, atI_2, eqW_ofs, look_ofs, look_nil, dspC, newDc, inW, Option.isSome_some, Option.isSome_none, itM, forM, items_dl, items_dt, methL, methD, arg0, arg1, arg2, appendW, popW, listW, get_new, set_new, isLst_new, pow109, String.reduceBEq, String.reduceEq, Bool.false_or, Bool.true_or, Bool.or_false, Bool.or_true, Kd.enc, Kd.s, ea, eb, eqW_int, hb', p8, fdivW, fdvOk_of (k := 94) (by decide) (by decide), e, Val.enc, fs]
  | num =>
    by_cases hb : b = 0
    · have m0 := Int.emod_nonneg a (show (3 : Int) ≠ 0 by decide)
      have m1 := Int.emod_lt_of_pos a (show (0 : Int) < 3 by decide)
      refine ⟨.i (999999999 - a % 3), ⟨by omega, by omega⟩, rfl, ?_⟩
      unfold s_value b_value
      subst hb
      simp only [szs, fnM, rawM, seqM, ifM, tvM, truM, binM, unM, appM, consA, nilA, varM, conM, retM, retN, asgM, expM, raiseM, passS, callF, app1, app2, noExc, isExc_d, isExc_c, bindS_ok, bindS_err, bindS_stuck, Res.bind_ok, Res.bind_err, Res.bind_stuck, onBl_bl, andT, orT, notT, andV, orV, notV, tupM, lstM, toDs, toD, asD_d, asD_new, frzW_d, newT, newL, slM, slW, someO, noneO, ixW, addW, subW, mulW, modW, cmpW, negW, lenW, intW, tabW, isNonB, isNonW, isNon_d, List.map_cons, List.map_nil, List.length_cons, List.length_nil, List.replicate, List.append_nil, List.nil_append, List.cons_append, List.getElem?_cons_zero, List.getElem?_cons_succ, List.set_cons_zero, List.set_cons_succ, Nat.reduceAdd, Nat.reduceSub, if_true, if_false, ite_true, ite_false, Bool.not_true, Bool.not_false, Bool.and_true, Bool.and_false, Bool.false_eq_true, reduceIte, fin_same, finE_same, fin_new, atI_0, atI_1, atI_2, eqW_ofs, look_ofs, look_nil, dspC, newDc, inW, Option.isSome_some, Option.isSome_none, itM, forM, items_dl, items_dt, methL, methD, arg0, arg1, arg2, appendW, popW, listW, get_new, set_new, isLst_new, pow109, String.reduceBEq, String.reduceEq, Bool.false_or, Bool.true_or, Bool.or_false, Bool.or_true, Kd.enc, Kd.s, ea, eb, eqW_int, beq_self_eq_true, p3, Val.enc, fs]
    · have hb' : (b == 0) = false := by simpa using hb
      by_cases h3 : b < 3
      · have m0 := Int.emod_nonneg a (show (4 : Int) ≠ 0 by decide)
        have m1 := Int.emod_lt_of_pos a (show (0 : Int) < 4 by decide)
        refine ⟨.i (a % 4), ⟨by omega, by omega⟩, rfl, ?_⟩
        unfold s_value b_value
        simp only [szs, fnM, rawM, seqM, ifM, tvM, truM, binM, unM, appM, consA, nilA, varM, conM, retM, retN, asgM, expM, raiseM, passS, callF, app1, app2, noExc, isExc_d, isExc_c, bindS_ok, bindS_err, bindS_stuck, Res.bind_ok, Res.bind_err, Res.bind_stuck, onBl_bl, andT, orT, notT, andV, orV, notV, tupM, lstM, toDs, toD, asD_d, asD_new, frzW_d, newT, newL, slM, slW, someO, noneO, ixW, addW, subW, mulW, modW, cmpW, negW, lenW, intW, tabW, isNonB, isNonW, isNon_d, List.map_cons, List.map_nil, List.length_cons, List.length_nil, List.replicate, List.append_nil, List.nil_append, List.cons_append, List.getElem?_cons_zero, List.getElem?_cons_succ, List.set_cons_zero, List.set_cons_succ, Nat.reduceAdd, Nat.reduceSub, if_true, if_false, ite_true, ite_false, Bool.not_true, Bool.not_false, Bool.and_true, Bool.and_false, Bool.false_eq_true, reduceIte, fin_same, finE_same, fin_new, atI_0, atI_1, atI_2, eqW_ofs, look_ofs, look_nil, dspC, newDc, inW, Option.isSome_some, Option.isSome_none, itM, forM, items_dl, items_dt, methL, methD, arg0, arg1, arg2, appendW, popW, listW, get_new, set_new, isLst_new, pow109, String.reduceBEq, String.reduceEq, Bool.false_or, Bool.true_or, Bool.or_false, Bool.or_true, Kd.enc, Kd.s, ea, eb, eqW_int, hb', p4, ltW, h3, decide_true, Val.enc, fs]
      · have h3' : decide (b < 3) = false := decide_eq_false h3
        refine ⟨.i a, ⟨by omega, by omega⟩, rfl, ?_⟩
        unfold s_value b_value
        simp only [szs, fnM, rawM, seqM, ifM, tvM, truM, binM, unM, appM, consA, nilA, varM, conM, retM, retN, asgM, expM, raiseM, passS, callF, app1, app2, noExc, isExc_d, isExc_c, bindS_ok, bindS_err, bindS_stuck, Res.bind_ok, Res.bind_err, Res.bind_stuck, onBl_bl, andT, orT, notT, andV, orV, notV, tupM, lstM, toDs, toD, asD_d, asD_new, frzW_d, newT, newL, slM, slW, someO, noneO, ixW, addW, subW, mulW, modW, cmpW, negW, lenW, intW, tabW, isNonB, isNonW, isNon_d, List.map_cons, List.map_nil, List.length_cons, List.length_nil, List.replicate, List.append_nil, List.nil_append, List.cons_append, List.getElem?_cons_zero, List.getElem?_cons_succ, List.set_cons_zero, List.set_cons_succ, Nat.reduceAdd, Nat.reduceSub, if_true, if_false, ite_true, ite_false, Bool.not_true, Bool.not_false, Bool.and_true, Bool.and_false, Bool.false_eq_true, reduceIte, fin_same, finE_same, fin_new, atI_0, atI_1, atI_2, eqW_ofs, look_ofs, look_nil, dspC, newDc, inW, Option.isSome_some, Option.isSome_none, itM, forM, items_dl, items_dt, methL, methD, arg0, arg1, arg2, appendW, popW, listW, get_new, set_new, isLst_new, pow109, String.reduceBEq, String.reduceEq, Bool.false_or, Bool.true_or, Bool.or_false, Bool.or_true, Kd.enc, Kd.s, ea, eb, eqW_int, hb', ltW, h3', Val.enc, fs]
end Py

namespace Py
open PySem L2
theorem atI_in {α β : Type} (f : α → β) (l : List α) (w : Int) (h0 : 0 ≤ w) (h1 : w < l.length) : ∃ s ∈ l, atI (l.map f) w = some (f s) := by
  have hlt : w.toNat < l.length := by omega
  refine ⟨l[w.toNat], List.getElem_mem hlt, ?_⟩
  have := atI_nat (l.map f) w.toNat
  rw [Int.toNat_of_nonneg h0] at this
  rw [this, List.getElem?_map, List.getElem?_eq_getElem hlt]; rfl
theorem fin_set2 (st : Store) (k : Nat) (a b : Int) (x : D) : fin (st.set k (tc a)) (.d x) (st.set k (tc b)) = .ok (.d x) (st.set k (tc b)) := by
  rw [← set_set' st k (tc a) (tc b)]; exact fin_set _ _ _ _
def words13 : List String := ["num", "text", "add", "mul", "less", "join", "long", "show", "swap", "drop", "copy", "copy", "copy"]
theorem plain_row_ok (ns : List Int) (k : Nat) (t : Int) (st : Store) (hk : k < st.length) (h0 : 0 ≤ t) (h1 : t ≤ 998000) :
    ∃ (r : Row) (t' : Int), r.ok ∧ t ≤ t' ∧ t' ≤ t + 5 ∧ s_plain_row [.d (.scr ns), .c k] (st.set k (tc t)) = .ok (.d r.enc) (st.set k (tc t')) := by
  obtain ⟨w, w0, w1, ew⟩ := draw2 ns k t 13 st hk h0 (by omega) (by decide)
  obtain ⟨s, hs, es⟩ := atI_in (fun s => D.str (Str.ofString s)) words13 w w0 w1
  simp only [words13, List.map_cons, List.map_nil] at es
  have op : ∀ o : Op, s = o.s → ∃ (r : Row) (t' : Int), r.ok ∧ t ≤ t' ∧ t' ≤ t + 5 ∧ s_plain_row [.d (.scr ns), .c k] (st.set k (tc t)) = .ok (.d r.enc) (st.set k (tc t')) := fun o e => by
    refine ⟨.op o, t + 1, trivial, by omega, by omega, ?_⟩
    subst e
    unfold s_plain_row b_plain_row
    cases o <;> (simp only [Op.s] at es; simp only [szs, fnM, rawM, seqM, ifM, tvM, truM, binM, unM, appM, consA, nilA, varM, conM, retM, retN, asgM, expM, raiseM, passS, callF, app1, app2, noExc, isExc_d, isExc_c, bindS_ok, bindS_err, bindS_stuck, Res.bind_ok, Res.bind_err, Res.bind_stuck, onBl_bl, andT, orT, notT, andV, orV, notV, tupM, lstM, toDs, toD, asD_d, asD_new, frzW_d, newT, newL, slM, slW, someO, noneO, ixW, addW, subW, mulW, modW, cmpW, negW, lenW, intW, tabW, isNonB, isNonW, isNon_d, List.map_cons, List.map_nil, List.length_cons, List.length_nil, List.replicate, List.append_nil, List.nil_append, List.cons_append, List.getElem?_cons_zero, List.getElem?_cons_succ, List.set_cons_zero, List.set_cons_succ, Nat.reduceAdd, Nat.reduceSub, if_true, if_false, ite_true, ite_false, Bool.not_true, Bool.not_false, Bool.and_true, Bool.and_false, Bool.false_eq_true, reduceIte, fin_same, finE_same, fin_new, atI_0, atI_1, atI_2, eqW_ofs, look_ofs, look_nil, dspC, newDc, inW, Option.isSome_some, Option.isSome_none, itM, forM, items_dl, items_dt, methL, methD, arg0, arg1, arg2, appendW, popW, listW, get_new, set_new, isLst_new, pow109, String.reduceBEq, String.reduceEq, Bool.false_or, Bool.true_or, Bool.or_false, Bool.or_true, ew, es, Row.enc, Op.s, fin_set2])
  have cp : s = "copy" → ∃ (r : Row) (t' : Int), r.ok ∧ t ≤ t' ∧ t' ≤ t + 5 ∧ s_plain_row [.d (.scr ns), .c k] (st.set k (tc t)) = .ok (.d r.enc) (st.set k (tc t')) := fun e => by
    subst e
    obtain ⟨a, a0, a1, ea⟩ := draw2 ns k (t + 1) 61 st hk (by omega) (by omega) (by decide)
    obtain ⟨b, b0, b1, eb⟩ := draw2 ns k (t + 1 + 1) 8 st hk (by omega) (by omega) (by decide)
    obtain ⟨x, hx, ex⟩ := atI_in D.int [0, 0, 1, 1, 2, 3, a, 60] b b0 b1
    simp only [List.map_cons, List.map_nil] at ex
    have hx2 : 0 ≤ x ∧ x ≤ 60 := by
      simp only [List.mem_cons, List.not_mem_nil, or_false] at hx
      rcases hx with h | h | h | h | h | h | h | h <;> omega
    refine ⟨.copy x.toNat, t + 1 + 1 + 1, (by show x.toNat ≤ 60; omega), by omega, by omega, ?_⟩
    unfold s_plain_row b_plain_row
    simp only [szs, fnM, rawM, seqM, ifM, tvM, truM, binM, unM, appM, consA, nilA, varM, conM, retM, retN, asgM, expM, raiseM, passS, callF, app1, app2, noExc, isExc_d, isExc_c, bindS_ok, bindS_err, bindS_stuck, Res.bind_ok, Res.bind_err, Res.bind_stuck, onBl_bl, andT, orT, notT, andV, orV, notV, tupM, lstM, toDs, toD, asD_d, asD_new, frzW_d, newT, newL, slM, slW, someO, noneO, ixW, addW, subW, mulW, modW, cmpW, negW, lenW, intW, tabW, isNonB, isNonW, isNon_d, List.map_cons, List.map_nil, List.length_cons, List.length_nil, List.replicate, List.append_nil, List.nil_append, List.cons_append, List.getElem?_cons_zero, List.getElem?_cons_succ, List.set_cons_zero, List.set_cons_succ, Nat.reduceAdd, Nat.reduceSub, if_true, if_false, ite_true, ite_false, Bool.not_true, Bool.not_false, Bool.and_true, Bool.and_false, Bool.false_eq_true, reduceIte, fin_same, finE_same, fin_new, atI_0, atI_1, atI_2, eqW_ofs, look_ofs, look_nil, dspC, newDc, inW, Option.isSome_some, Option.isSome_none, itM, forM, items_dl, items_dt, methL, methD, arg0, arg1, arg2, appendW, popW, listW, get_new, set_new, isLst_new, pow109, String.reduceBEq, String.reduceEq, Bool.false_or, Bool.true_or, Bool.or_false, Bool.or_true, ew, es, ea, eb, ex, Row.enc, fin_set2]
    rw [Int.toNat_of_nonneg hx2.1]
  have nt : ∀ kd : Kd, s = kd.s → ∃ (r : Row) (t' : Int), r.ok ∧ t ≤ t' ∧ t' ≤ t + 5 ∧ s_plain_row [.d (.scr ns), .c k] (st.set k (tc t)) = .ok (.d r.enc) (st.set k (tc t')) := fun kd e => by
    subst e
    obtain ⟨v, v1, v2, ev⟩ := value_ok ns k (t + 1) kd st hk (by omega) (by omega)
    cases v with
    | i n =>
      cases kd with
      | text => cases v2
      | num =>
        refine ⟨.num n, t + 1 + 2, v1, by omega, by omega, ?_⟩
        simp only [Kd.enc, Kd.s, Val.enc] at ev es
        unfold s_plain_row b_plain_row
        simp only [szs, fnM, rawM, seqM, ifM, tvM, truM, binM, unM, appM, consA, nilA, varM, conM, retM, retN, asgM, expM, raiseM, passS, callF, app1, app2, noExc, isExc_d, isExc_c, bindS_ok, bindS_err, bindS_stuck, Res.bind_ok, Res.bind_err, Res.bind_stuck, onBl_bl, andT, orT, notT, andV, orV, notV, tupM, lstM, toDs, toD, asD_d, asD_new, frzW_d, newT, newL, slM, slW, someO, noneO, ixW, addW, subW, mulW, modW, cmpW, negW, lenW, intW, tabW, isNonB, isNonW, isNon_d, List.map_cons, List.map_nil, List.length_cons, List.length_nil, List.replicate, List.append_nil, List.nil_append, List.cons_append, List.getElem?_cons_zero, List.getElem?_cons_succ, List.set_cons_zero, List.set_cons_succ, Nat.reduceAdd, Nat.reduceSub, if_true, if_false, ite_true, ite_false, Bool.not_true, Bool.not_false, Bool.and_true, Bool.and_false, Bool.false_eq_true, reduceIte, fin_same, finE_same, fin_new, atI_0, atI_1, atI_2, eqW_ofs, look_ofs, look_nil, dspC, newDc, inW, Option.isSome_some, Option.isSome_none, itM, forM, items_dl, items_dt, methL, methD, arg0, arg1, arg2, appendW, popW, listW, get_new, set_new, isLst_new, pow109, String.reduceBEq, String.reduceEq, Bool.false_or, Bool.true_or, Bool.or_false, Bool.or_true, ew, es, ev, Row.enc, fin_set2]
    | s n =>
      cases kd with
      | num => cases v2
      | text =>
        refine ⟨.text n, t + 1 + 2, v1, by omega, by omega, ?_⟩
        simp only [Kd.enc, Kd.s, Val.enc] at ev es
        unfold s_plain_row b_plain_row
        simp only [szs, fnM, rawM, seqM, ifM, tvM, truM, binM, unM, appM, consA, nilA, varM, conM, retM, retN, asgM, expM, raiseM, passS, callF, app1, app2, noExc, isExc_d, isExc_c, bindS_ok, bindS_err, bindS_stuck, Res.bind_ok, Res.bind_err, Res.bind_stuck, onBl_bl, andT, orT, notT, andV, orV, notV, tupM, lstM, toDs, toD, asD_d, asD_new, frzW_d, newT, newL, slM, slW, someO, noneO, ixW, addW, subW, mulW, modW, cmpW, negW, lenW, intW, tabW, isNonB, isNonW, isNon_d, List.map_cons, List.map_nil, List.length_cons, List.length_nil, List.replicate, List.append_nil, List.nil_append, List.cons_append, List.getElem?_cons_zero, List.getElem?_cons_succ, List.set_cons_zero, List.set_cons_succ, Nat.reduceAdd, Nat.reduceSub, if_true, if_false, ite_true, ite_false, Bool.not_true, Bool.not_false, Bool.and_true, Bool.and_false, Bool.false_eq_true, reduceIte, fin_same, finE_same, fin_new, atI_0, atI_1, atI_2, eqW_ofs, look_ofs, look_nil, dspC, newDc, inW, Option.isSome_some, Option.isSome_none, itM, forM, items_dl, items_dt, methL, methD, arg0, arg1, arg2, appendW, popW, listW, get_new, set_new, isLst_new, pow109, String.reduceBEq, String.reduceEq, Bool.false_or, Bool.true_or, Bool.or_false, Bool.or_true, ew, es, ev, Row.enc, fin_set2]
  simp only [words13, List.mem_cons, List.not_mem_nil, or_false] at hs
  rcases hs with h | h | h | h | h | h | h | h | h | h | h | h | h
  · exact nt .num h
  · exact nt .text h
  · exact op .add h
  · exact op .mul h
  · exact op .less h
  · exact op .join h
  · exact op .long h
  · exact op .shw h
  · exact op .swap h
  · exact op .drop h
  · exact cp h
  · exact cp h
  · exact cp h
theorem seq_nx {a b : MS} {env e : Env} {st s : Store} (h : a env st = .nx e s) : seqM a b env st = b e s := by
  unfold seqM; rw [h]
theorem fnM_ret {a n : Nat} {body : MS} {ws : List W} {st st' : Store} {w : W} (hl : ws.length = a) (h : body (ws.map some ++ List.replicate (n - a) none) st = .ret w st') : fnM a n body ws st = fin st w st' := by
  unfold fnM; rw [if_pos hl, h]
theorem fin_lst {st e : Store} {k j : Nat} {t t' : Int} {xs : List D} (hk : k < st.length) (hj : st.length ≤ j) (h : ((st ++ e).set k (tc t'))[j]? = some (.lst xs)) :
    fin (st.set k (tc t)) (.c j) ((st ++ e).set k (tc t')) = .ok (.c st.length) (st.set k (tc t') ++ [.lst xs]) := by
  have e1 : (st ++ e).set k (tc t') = st.set k (tc t') ++ e := by rw [List.set_append_left _ _ hk]
  unfold fin
  rw [if_pos]
  · simp only [List.length_set]
    rw [if_neg (by omega), h]
    simp only
    rw [e1, List.take_left' (by simp)]
  · refine ⟨by rw [List.length_set, List.length_set, List.length_append]; omega, fun i fs hi h => ?_⟩
    rw [List.length_set] at hi
    rw [List.getElem?_set] at h ⊢
    split at h
    · split at h <;> cases h
    · rename_i hne
      rw [if_neg hne]
      rwa [List.getElem?_append_left hi] at h
section
variable {st : Store} {k : Nat} (hk : k < st.length)
include hk
theorem pg (c x : Cell) : ((st ++ [c]).set k x)[st.length]? = some c := by
  rw [List.getElem?_set_ne (by omega)]; simp
theorem ps (c c' x : Cell) : ((st ++ [c]).set k x).set st.length c' = (st ++ [c']).set k x := by
  rw [List.set_comm _ _ (by omega)]; simp
theorem pa (xs : List D) (x : Cell) : asD ((st ++ [Cell.lst xs]).set k x) (.c st.length) = some (.lst xs) := by
  unfold asD; simp only; rw [pg hk]
theorem pl (xs : List D) (x : Cell) : isLst (.c st.length) ((st ++ [Cell.lst xs]).set k x) = true := by
  unfold isLst; rw [pa hk]
theorem pd (ns : List Int) (c : Cell) (t m : Int) (h0 : 0 ≤ t) (h1 : t ≤ 1000000) (hm : 0 < m) :
    ∃ v, 0 ≤ v ∧ v < m ∧ s_draw [.d (.scr ns), .c k, .d (.int m)] ((st ++ [c]).set k (tc t)) = .ok (.d (.int v)) ((st ++ [c]).set k (tc (t + 1))) :=
  draw2 ns k t m (st ++ [c]) (by rw [List.length_append]; omega) h0 h1 hm
end
theorem kdAt (w : Int) (h0 : 0 ≤ w) (h1 : w < 2) : ∃ kd : Kd, atI [D.str (Str.ofString "num"), D.str (Str.ofString "text")] w = some kd.enc := by
  obtain ⟨s, _, es⟩ := atI_in Kd.enc [.num, .text] w h0 h1
  exact ⟨s, es⟩
theorem lt_line {n : Nat} (h : n ≤ 999999) : n < sizeLine := Nat.lt_of_le_of_lt h (by decide)
end Py

namespace Py
open PySem L2
section
variable {st : Store} {k : Nat} (hk : k < st.length) (ns : List Int)
include hk
end
end Py

namespace Py
open PySem L2
section
variable {st : Store} {k : Nat} (hk : k < st.length) (ns : List Int)
include hk
end
end Py

namespace Py
open PySem L2
theorem needS_eq (ks : List Kd) (ws : List (Option Kd)) : need ks ws = none ∨ need ks ws = some .empty ∨ need ks ws = some .kind := by
  unfold need
  split
  · exact .inr (.inl rfl)
  · split
    · exact .inr (.inr rfl)
    · exact .inl rfl
theorem strOk_cut {z : Str} (lo hi : Option Int) (h : PyData.strOk z = true) : PyData.strOk (cutS z lo hi) = true := by
  unfold PyData.strOk at h ⊢
  rw [← Array.all_toList, List.all_eq_true] at h ⊢
  intro c hc
  exact h c (List.mem_of_mem_drop (List.mem_of_mem_take hc))
end Py

namespace Py
open PySem L2
/-! ### the kinds behind a plain row -/
def Op.puts : Op → List Kd
  | .add => [.num] | .mul => [.num] | .less => [.num] | .join => [.text] | .long => [.num] | .shw => [.text] | .swap => [] | .drop => []
def plainK (r : Row) (ks : List Kd) : List Kd := match r with
  | .num _ => ks ++ [.num]
  | .text _ => ks ++ [.text]
  | .copy k => ks ++ [ks.reverse.getD k .num]
  | .op .swap => (match ks.reverse with | b :: a :: us => us.reverse ++ [b, a] | _ => ks)
  | .op o => ks.take (ks.length - o.wants.length) ++ o.puts
abbrev encK (ks : List Kd) : List D := ks.map Kd.enc
theorem ktop2 {ks : List Kd} {w1 w2 : Option Kd} (h : need ks [w1, w2] = none) : ∃ us a b, ks = us ++ [a, b] ∧ bad (a, w1) = false ∧ bad (b, w2) = false := by
  obtain ⟨h1, h2⟩ := need_none h
  simp only [List.length_cons, List.length_nil] at h1 h2
  obtain ⟨us, ys, rfl, hy⟩ : ∃ us ys, ks = us ++ ys ∧ ys.length = 2 := ⟨ks.take (ks.length - 2), ks.drop (ks.length - 2), (List.take_append_drop _ _).symm, by rw [List.length_drop]; omega⟩
  match ys, hy with
  | [a, b], _ =>
    refine ⟨us, a, b, rfl, ?_⟩
    rw [show (us ++ [a, b]).length - (0 + 1 + 1) = us.length from by simp, List.drop_left] at h2
    simp only [List.zip_cons_cons, List.any_cons, List.any_nil, Bool.or_eq_false_iff] at h2
    exact ⟨h2.1, h2.2.1⟩
theorem ktop1 {ks : List Kd} {w1 : Option Kd} (h : need ks [w1] = none) : ∃ us a, ks = us ++ [a] ∧ bad (a, w1) = false := by
  obtain ⟨h1, h2⟩ := need_none h
  simp only [List.length_cons, List.length_nil] at h1 h2
  obtain ⟨us, ys, rfl, hy⟩ : ∃ us ys, ks = us ++ ys ∧ ys.length = 1 := ⟨ks.take (ks.length - 1), ks.drop (ks.length - 1), (List.take_append_drop _ _).symm, by rw [List.length_drop]; omega⟩
  match ys, hy with
  | [a], _ =>
    refine ⟨us, a, rfl, ?_⟩
    rw [show (us ++ [a]).length - (0 + 1) = us.length from by simp, List.drop_left] at h2
    simp only [List.zip_cons_cons, List.any_cons, List.any_nil, Bool.or_eq_false_iff] at h2
    exact h2.1
theorem kat21 (us : List Kd) (a b : Kd) : atI (encK (us ++ [a, b])) (-1) = some b.enc := by
  have := atI_neg (encK (us ++ [a, b])) 1 (by decide) (by simp)
  rw [show (-((1 : Nat) : Int)) = -1 from rfl] at this
  rw [this]; simp
theorem kat22 (us : List Kd) (a b : Kd) : atI (encK (us ++ [a, b])) (-2) = some a.enc := by
  have := atI_neg (encK (us ++ [a, b])) 2 (by decide) (by simp)
  rw [show (-((2 : Nat) : Int)) = -2 from rfl] at this
  rw [this]; simp
theorem lk_num : look (Str.ofString "num") T_PUTS = some (.tup (encK [.num])) := by simp [T_PUTS, look_ofs, Kd.enc, Kd.s]
theorem lk_text : look (Str.ofString "text") T_PUTS = some (.tup (encK [.text])) := by simp [T_PUTS, look_ofs, Kd.enc, Kd.s]
theorem lk_add : look (Str.ofString "add") T_PUTS = some (.tup (encK [.num])) := by simp [T_PUTS, look_ofs, Kd.enc, Kd.s]
theorem lk_mul : look (Str.ofString "mul") T_PUTS = some (.tup (encK [.num])) := by simp [T_PUTS, look_ofs, Kd.enc, Kd.s]
theorem lk_less : look (Str.ofString "less") T_PUTS = some (.tup (encK [.num])) := by simp [T_PUTS, look_ofs, Kd.enc, Kd.s]
theorem lk_join : look (Str.ofString "join") T_PUTS = some (.tup (encK [.text])) := by simp [T_PUTS, look_ofs, Kd.enc, Kd.s]
theorem lk_long : look (Str.ofString "long") T_PUTS = some (.tup (encK [.num])) := by simp [T_PUTS, look_ofs, Kd.enc, Kd.s]
theorem lk_show : look (Str.ofString "show") T_PUTS = some (.tup (encK [.text])) := by simp [T_PUTS, look_ofs, Kd.enc, Kd.s]
theorem p_plainly_ok (ks : List Kd) (r : Row) (st : Store) (hr : r.ok) (hl : ks.length ≤ 400000) :
    s_p_plainly [.d (.tup (encK ks)), .d r.enc] st = match need ks r.wants with | some e => .err e st | none => .ok (.d (.tup (encK (plainK r ks)))) st := by
  unfold s_p_plainly b_p_plainly
  have e4 := need_ok ks r.wants st (by omega)
  have s0 : ∀ n, (List.take n (encK ks)).length ≤ sizeLine := fun n => small (by rw [List.length_take, List.length_map]; omega)
  simp only [szs, fnM, rawM, seqM, ifM, tvM, truM, binM, unM, appM, consA, nilA, varM, conM, retM, retN, asgM, expM, raiseM, passS, callF, app1, app2, noExc, isExc_d, isExc_c, bindS_ok, bindS_err, bindS_stuck, Res.bind_ok, Res.bind_err, Res.bind_stuck, onBl_bl, andT, orT, notT, andV, orV, notV, tupM, lstM, toDs, toD, asD_d, asD_new, frzW_d, newT, newL, slM, slW, someO, noneO, ixW, addW, subW, mulW, modW, cmpW, negW, lenW, intW, tabW, isNonB, isNonW, isNon_d, List.map_cons, List.map_nil, List.length_cons, List.length_nil, List.replicate, List.append_nil, List.nil_append, List.cons_append, List.getElem?_cons_zero, List.getElem?_cons_succ, List.set_cons_zero, List.set_cons_succ, Nat.reduceAdd, Nat.reduceSub, if_true, if_false, ite_true, ite_false, Bool.not_true, Bool.not_false, Bool.and_true, Bool.and_false, Bool.false_eq_true, reduceIte, fin_same, finE_same, fin_new, atI_0, atI_1, atI_2, eqW_ofs, look_ofs, look_nil, dspC, newDc, inW, Option.isSome_some, Option.isSome_none, itM, forM, items_dl, items_dt, methL, methD, arg0, arg1, arg2, appendW, popW, listW, get_new, set_new, isLst_new, pow109, String.reduceBEq, String.reduceEq, Bool.false_or, Bool.true_or, Bool.or_false, Bool.or_true, wants_ok r hr, e4]
  cases q : need ks r.wants with
  | some e => simp only [bindS_err, finE_same, Res.bind_err]
  | none =>
    have hwl := (need_none q).1
    have e5 : ((encK ks).length : Int) - ((r.wants.map encO).length : Int) = ((ks.length - r.wants.length : Nat) : Int) := by rw [List.length_map, List.length_map]; omega
    have s1 : ∀ x : D, (encK ks ++ [x]).length ≤ sizeLine := fun x => small (by simp; omega)
    have s2 : ∀ n (x : List D), x.length ≤ 2 → (List.take n (encK ks) ++ x).length ≤ sizeLine := fun n x hx => small (by rw [List.length_append, List.length_take, List.length_map]; omega)
    simp only [bindS_ok, Res.bind_ok]
    have sA : (encK ks).length ≤ sizeLine := small (by rw [List.length_map]; omega)
    have tk : List.take ks.length (encK ks) = encK ks := List.take_of_length_le (by rw [List.length_map]; exact Nat.le_refl _)
    cases r with
    | num v =>
      simp only [Row.enc]
      simp only [szs, fnM, rawM, seqM, ifM, tvM, truM, binM, unM, appM, consA, nilA, varM, conM, retM, retN, asgM, expM, raiseM, passS, callF, app1, app2, noExc, isExc_d, isExc_c, bindS_ok, bindS_err, bindS_stuck, Res.bind_ok, Res.bind_err, Res.bind_stuck, onBl_bl, andT, orT, notT, andV, orV, notV, tupM, lstM, toDs, toD, asD_d, asD_new, frzW_d, newT, newL, slM, slW, someO, noneO, ixW, addW, subW, mulW, modW, cmpW, negW, lenW, intW, tabW, isNonB, isNonW, isNon_d, List.map_cons, List.map_nil, List.length_cons, List.length_nil, List.replicate, List.append_nil, List.nil_append, List.cons_append, List.getElem?_cons_zero, List.getElem?_cons_succ, List.set_cons_zero, List.set_cons_succ, Nat.reduceAdd, Nat.reduceSub, if_true, if_false, ite_true, ite_false, Bool.not_true, Bool.not_false, Bool.and_true, Bool.and_false, Bool.false_eq_true, reduceIte, fin_same, finE_same, fin_new, atI_0, atI_1, atI_2, eqW_ofs, look_ofs, look_nil, dspC, newDc, inW, Option.isSome_some, Option.isSome_none, itM, forM, items_dl, items_dt, methL, methD, arg0, arg1, arg2, appendW, popW, listW, get_new, set_new, isLst_new, pow109, String.reduceBEq, String.reduceEq, Bool.false_or, Bool.true_or, Bool.or_false, Bool.or_true, e5, cut_to, sA, lk_num, show ks.length - (Row.num v).wants.length = ks.length from rfl, tk, s1]
      simp [plainK, bindS, fin_same]
    | text v =>
      simp only [Row.enc]
      simp only [szs, fnM, rawM, seqM, ifM, tvM, truM, binM, unM, appM, consA, nilA, varM, conM, retM, retN, asgM, expM, raiseM, passS, callF, app1, app2, noExc, isExc_d, isExc_c, bindS_ok, bindS_err, bindS_stuck, Res.bind_ok, Res.bind_err, Res.bind_stuck, onBl_bl, andT, orT, notT, andV, orV, notV, tupM, lstM, toDs, toD, asD_d, asD_new, frzW_d, newT, newL, slM, slW, someO, noneO, ixW, addW, subW, mulW, modW, cmpW, negW, lenW, intW, tabW, isNonB, isNonW, isNon_d, List.map_cons, List.map_nil, List.length_cons, List.length_nil, List.replicate, List.append_nil, List.nil_append, List.cons_append, List.getElem?_cons_zero, List.getElem?_cons_succ, List.set_cons_zero, List.set_cons_succ, Nat.reduceAdd, Nat.reduceSub, if_true, if_false, ite_true, ite_false, Bool.not_true, Bool.not_false, Bool.and_true, Bool.and_false, Bool.false_eq_true, reduceIte, fin_same, finE_same, fin_new, atI_0, atI_1, atI_2, eqW_ofs, look_ofs, look_nil, dspC, newDc, inW, Option.isSome_some, Option.isSome_none, itM, forM, items_dl, items_dt, methL, methD, arg0, arg1, arg2, appendW, popW, listW, get_new, set_new, isLst_new, pow109, String.reduceBEq, String.reduceEq, Bool.false_or, Bool.true_or, Bool.or_false, Bool.or_true, e5, cut_to, sA, lk_text, show ks.length - (Row.text v).wants.length = ks.length from rfl, tk, s1]
      simp [plainK, bindS, fin_same]
    | copy k =>
      have hk : k + 1 ≤ ks.length := by simpa [Row.wants] using hwl
      have e7 : ((encK ks).length : Int) - 1 - (k : Int) = ((ks.length - 1 - k : Nat) : Int) := by rw [List.length_map]; omega
      have e8 : (encK ks)[ks.length - 1 - k]? = some (ks.reverse.getD k .num).enc := by
        rw [List.getElem?_map, List.getD_eq_getElem?_getD, List.getElem?_reverse (by omega)]
        have : ks.length - 1 - k < ks.length := by omega
        rw [List.getElem?_eq_getElem this]; rfl
      simp only [Row.enc]
      simp only [szs, fnM, rawM, seqM, ifM, tvM, truM, binM, unM, appM, consA, nilA, varM, conM, retM, retN, asgM, expM, raiseM, passS, callF, app1, app2, noExc, isExc_d, isExc_c, bindS_ok, bindS_err, bindS_stuck, Res.bind_ok, Res.bind_err, Res.bind_stuck, onBl_bl, andT, orT, notT, andV, orV, notV, tupM, lstM, toDs, toD, asD_d, asD_new, frzW_d, newT, newL, slM, slW, someO, noneO, ixW, addW, subW, mulW, modW, cmpW, negW, lenW, intW, tabW, isNonB, isNonW, isNon_d, List.map_cons, List.map_nil, List.length_cons, List.length_nil, List.replicate, List.append_nil, List.nil_append, List.cons_append, List.getElem?_cons_zero, List.getElem?_cons_succ, List.set_cons_zero, List.set_cons_succ, Nat.reduceAdd, Nat.reduceSub, if_true, if_false, ite_true, ite_false, Bool.not_true, Bool.not_false, Bool.and_true, Bool.and_false, Bool.false_eq_true, reduceIte, fin_same, finE_same, fin_new, atI_0, atI_1, atI_2, eqW_ofs, look_ofs, look_nil, dspC, newDc, inW, Option.isSome_some, Option.isSome_none, itM, forM, items_dl, items_dt, methL, methD, arg0, arg1, arg2, appendW, popW, listW, get_new, set_new, isLst_new, pow109, String.reduceBEq, String.reduceEq, Bool.false_or, Bool.true_or, Bool.or_false, Bool.or_true, e7, atI_nat, e8, s1]
      simp [plainK]
    | op o =>
      cases o with
      | swap =>
        obtain ⟨us, a, b, rfl, _, _⟩ := ktop2 q
        have e9 : List.take ((us ++ [a, b]).length - (Row.op Op.swap).wants.length) (encK (us ++ [a, b])) = encK us := by simp [Row.wants, Op.wants]
        have e6 : (encK us ++ [b.enc, a.enc]).length ≤ sizeLine := small (by simp at hl ⊢; omega)
        have e10 : (encK us).length ≤ sizeLine := small (by simp at hl ⊢; omega)
        simp only [Row.enc, Op.s]
        simp only [szs, fnM, rawM, seqM, ifM, tvM, truM, binM, unM, appM, consA, nilA, varM, conM, retM, retN, asgM, expM, raiseM, passS, callF, app1, app2, noExc, isExc_d, isExc_c, bindS_ok, bindS_err, bindS_stuck, Res.bind_ok, Res.bind_err, Res.bind_stuck, onBl_bl, andT, orT, notT, andV, orV, notV, tupM, lstM, toDs, toD, asD_d, asD_new, frzW_d, newT, newL, slM, slW, someO, noneO, ixW, addW, subW, mulW, modW, cmpW, negW, lenW, intW, tabW, isNonB, isNonW, isNon_d, List.map_cons, List.map_nil, List.length_cons, List.length_nil, List.replicate, List.append_nil, List.nil_append, List.cons_append, List.getElem?_cons_zero, List.getElem?_cons_succ, List.set_cons_zero, List.set_cons_succ, Nat.reduceAdd, Nat.reduceSub, if_true, if_false, ite_true, ite_false, Bool.not_true, Bool.not_false, Bool.and_true, Bool.and_false, Bool.false_eq_true, reduceIte, fin_same, finE_same, fin_new, atI_0, atI_1, atI_2, eqW_ofs, look_ofs, look_nil, dspC, newDc, inW, Option.isSome_some, Option.isSome_none, itM, forM, items_dl, items_dt, methL, methD, arg0, arg1, arg2, appendW, popW, listW, get_new, set_new, isLst_new, pow109, String.reduceBEq, String.reduceEq, Bool.false_or, Bool.true_or, Bool.or_false, Bool.or_true, e5, cut_to, e9, e10, Int.reduceNeg, kat21, kat22, e6]
        simp [plainK]
      | drop =>
        simp only [Row.enc, Op.s]
        simp only [szs, fnM, rawM, seqM, ifM, tvM, truM, binM, unM, appM, consA, nilA, varM, conM, retM, retN, asgM, expM, raiseM, passS, callF, app1, app2, noExc, isExc_d, isExc_c, bindS_ok, bindS_err, bindS_stuck, Res.bind_ok, Res.bind_err, Res.bind_stuck, onBl_bl, andT, orT, notT, andV, orV, notV, tupM, lstM, toDs, toD, asD_d, asD_new, frzW_d, newT, newL, slM, slW, someO, noneO, ixW, addW, subW, mulW, modW, cmpW, negW, lenW, intW, tabW, isNonB, isNonW, isNon_d, List.map_cons, List.map_nil, List.length_cons, List.length_nil, List.replicate, List.append_nil, List.nil_append, List.cons_append, List.getElem?_cons_zero, List.getElem?_cons_succ, List.set_cons_zero, List.set_cons_succ, Nat.reduceAdd, Nat.reduceSub, if_true, if_false, ite_true, ite_false, Bool.not_true, Bool.not_false, Bool.and_true, Bool.and_false, Bool.false_eq_true, reduceIte, fin_same, finE_same, fin_new, atI_0, atI_1, atI_2, eqW_ofs, look_ofs, look_nil, dspC, newDc, inW, Option.isSome_some, Option.isSome_none, itM, forM, items_dl, items_dt, methL, methD, arg0, arg1, arg2, appendW, popW, listW, get_new, set_new, isLst_new, pow109, String.reduceBEq, String.reduceEq, Bool.false_or, Bool.true_or, Bool.or_false, Bool.or_true, e5, cut_to, s0]
        simp [plainK, Op.puts, Row.wants]
      | add =>
        have e6 := s2 (ks.length - (Row.op Op.add).wants.length) [Kd.enc .num] (by simp)
        simp only [Row.enc, Op.s]
        simp only [szs, fnM, rawM, seqM, ifM, tvM, truM, binM, unM, appM, consA, nilA, varM, conM, retM, retN, asgM, expM, raiseM, passS, callF, app1, app2, noExc, isExc_d, isExc_c, bindS_ok, bindS_err, bindS_stuck, Res.bind_ok, Res.bind_err, Res.bind_stuck, onBl_bl, andT, orT, notT, andV, orV, notV, tupM, lstM, toDs, toD, asD_d, asD_new, frzW_d, newT, newL, slM, slW, someO, noneO, ixW, addW, subW, mulW, modW, cmpW, negW, lenW, intW, tabW, isNonB, isNonW, isNon_d, List.map_cons, List.map_nil, List.length_cons, List.length_nil, List.replicate, List.append_nil, List.nil_append, List.cons_append, List.getElem?_cons_zero, List.getElem?_cons_succ, List.set_cons_zero, List.set_cons_succ, Nat.reduceAdd, Nat.reduceSub, if_true, if_false, ite_true, ite_false, Bool.not_true, Bool.not_false, Bool.and_true, Bool.and_false, Bool.false_eq_true, reduceIte, fin_same, finE_same, fin_new, atI_0, atI_1, atI_2, eqW_ofs, look_ofs, look_nil, dspC, newDc, inW, Option.isSome_some, Option.isSome_none, itM, forM, items_dl, items_dt, methL, methD, arg0, arg1, arg2, appendW, popW, listW, get_new, set_new, isLst_new, pow109, String.reduceBEq, String.reduceEq, Bool.false_or, Bool.true_or, Bool.or_false, Bool.or_true, e5, cut_to, s0, lk_add]
        rw [if_pos e6]
        simp [plainK, bindS, fin_same, Op.puts, Row.wants]
      | mul =>
        have e6 := s2 (ks.length - (Row.op Op.mul).wants.length) [Kd.enc .num] (by simp)
        simp only [Row.enc, Op.s]
        simp only [szs, fnM, rawM, seqM, ifM, tvM, truM, binM, unM, appM, consA, nilA, varM, conM, retM, retN, asgM, expM, raiseM, passS, callF, app1, app2, noExc, isExc_d, isExc_c, bindS_ok, bindS_err, bindS_stuck, Res.bind_ok, Res.bind_err, Res.bind_stuck, onBl_bl, andT, orT, notT, andV, orV, notV, tupM, lstM, toDs, toD, asD_d, asD_new, frzW_d, newT, newL, slM, slW, someO, noneO, ixW, addW, subW, mulW, modW, cmpW, negW, lenW, intW, tabW, isNonB, isNonW, isNon_d, List.map_cons, List.map_nil, List.length_cons, List.length_nil, List.replicate, List.append_nil, List.nil_append, List.cons_append, List.getElem?_cons_zero, List.getElem?_cons_succ, List.set_cons_zero, List.set_cons_succ, Nat.reduceAdd, Nat.reduceSub, if_true, if_false, ite_true, ite_false, Bool.not_true, Bool.not_false, Bool.and_true, Bool.and_false, Bool.false_eq_true, reduceIte, fin_same, finE_same, fin_new, atI_0, atI_1, atI_2, eqW_ofs, look_ofs, look_nil, dspC, newDc, inW, Option.isSome_some, Option.isSome_none, itM, forM, items_dl, items_dt, methL, methD, arg0, arg1, arg2, appendW, popW, listW, get_new, set_new, isLst_new, pow109, String.reduceBEq, String.reduceEq, Bool.false_or, Bool.true_or, Bool.or_false, Bool.or_true, e5, cut_to, s0, lk_mul]
        rw [if_pos e6]
        simp [plainK, bindS, fin_same, Op.puts, Row.wants]
      | less =>
        have e6 := s2 (ks.length - (Row.op Op.less).wants.length) [Kd.enc .num] (by simp)
        simp only [Row.enc, Op.s]
        simp only [szs, fnM, rawM, seqM, ifM, tvM, truM, binM, unM, appM, consA, nilA, varM, conM, retM, retN, asgM, expM, raiseM, passS, callF, app1, app2, noExc, isExc_d, isExc_c, bindS_ok, bindS_err, bindS_stuck, Res.bind_ok, Res.bind_err, Res.bind_stuck, onBl_bl, andT, orT, notT, andV, orV, notV, tupM, lstM, toDs, toD, asD_d, asD_new, frzW_d, newT, newL, slM, slW, someO, noneO, ixW, addW, subW, mulW, modW, cmpW, negW, lenW, intW, tabW, isNonB, isNonW, isNon_d, List.map_cons, List.map_nil, List.length_cons, List.length_nil, List.replicate, List.append_nil, List.nil_append, List.cons_append, List.getElem?_cons_zero, List.getElem?_cons_succ, List.set_cons_zero, List.set_cons_succ, Nat.reduceAdd, Nat.reduceSub, if_true, if_false, ite_true, ite_false, Bool.not_true, Bool.not_false, Bool.and_true, Bool.and_false, Bool.false_eq_true, reduceIte, fin_same, finE_same, fin_new, atI_0, atI_1, atI_2, eqW_ofs, look_ofs, look_nil, dspC, newDc, inW, Option.isSome_some, Option.isSome_none, itM, forM, items_dl, items_dt, methL, methD, arg0, arg1, arg2, appendW, popW, listW, get_new, set_new, isLst_new, pow109, String.reduceBEq, String.reduceEq, Bool.false_or, Bool.true_or, Bool.or_false, Bool.or_true, e5, cut_to, s0, lk_less]
        rw [if_pos e6]
        simp [plainK, bindS, fin_same, Op.puts, Row.wants]
      | join =>
        have e6 := s2 (ks.length - (Row.op Op.join).wants.length) [Kd.enc .text] (by simp)
        simp only [Row.enc, Op.s]
        simp only [szs, fnM, rawM, seqM, ifM, tvM, truM, binM, unM, appM, consA, nilA, varM, conM, retM, retN, asgM, expM, raiseM, passS, callF, app1, app2, noExc, isExc_d, isExc_c, bindS_ok, bindS_err, bindS_stuck, Res.bind_ok, Res.bind_err, Res.bind_stuck, onBl_bl, andT, orT, notT, andV, orV, notV, tupM, lstM, toDs, toD, asD_d, asD_new, frzW_d, newT, newL, slM, slW, someO, noneO, ixW, addW, subW, mulW, modW, cmpW, negW, lenW, intW, tabW, isNonB, isNonW, isNon_d, List.map_cons, List.map_nil, List.length_cons, List.length_nil, List.replicate, List.append_nil, List.nil_append, List.cons_append, List.getElem?_cons_zero, List.getElem?_cons_succ, List.set_cons_zero, List.set_cons_succ, Nat.reduceAdd, Nat.reduceSub, if_true, if_false, ite_true, ite_false, Bool.not_true, Bool.not_false, Bool.and_true, Bool.and_false, Bool.false_eq_true, reduceIte, fin_same, finE_same, fin_new, atI_0, atI_1, atI_2, eqW_ofs, look_ofs, look_nil, dspC, newDc, inW, Option.isSome_some, Option.isSome_none, itM, forM, items_dl, items_dt, methL, methD, arg0, arg1, arg2, appendW, popW, listW, get_new, set_new, isLst_new, pow109, String.reduceBEq, String.reduceEq, Bool.false_or, Bool.true_or, Bool.or_false, Bool.or_true, e5, cut_to, s0, lk_join]
        rw [if_pos e6]
        simp [plainK, bindS, fin_same, Op.puts, Row.wants]
      | long =>
        have e6 := s2 (ks.length - (Row.op Op.long).wants.length) [Kd.enc .num] (by simp)
        simp only [Row.enc, Op.s]
        simp only [szs, fnM, rawM, seqM, ifM, tvM, truM, binM, unM, appM, consA, nilA, varM, conM, retM, retN, asgM, expM, raiseM, passS, callF, app1, app2, noExc, isExc_d, isExc_c, bindS_ok, bindS_err, bindS_stuck, Res.bind_ok, Res.bind_err, Res.bind_stuck, onBl_bl, andT, orT, notT, andV, orV, notV, tupM, lstM, toDs, toD, asD_d, asD_new, frzW_d, newT, newL, slM, slW, someO, noneO, ixW, addW, subW, mulW, modW, cmpW, negW, lenW, intW, tabW, isNonB, isNonW, isNon_d, List.map_cons, List.map_nil, List.length_cons, List.length_nil, List.replicate, List.append_nil, List.nil_append, List.cons_append, List.getElem?_cons_zero, List.getElem?_cons_succ, List.set_cons_zero, List.set_cons_succ, Nat.reduceAdd, Nat.reduceSub, if_true, if_false, ite_true, ite_false, Bool.not_true, Bool.not_false, Bool.and_true, Bool.and_false, Bool.false_eq_true, reduceIte, fin_same, finE_same, fin_new, atI_0, atI_1, atI_2, eqW_ofs, look_ofs, look_nil, dspC, newDc, inW, Option.isSome_some, Option.isSome_none, itM, forM, items_dl, items_dt, methL, methD, arg0, arg1, arg2, appendW, popW, listW, get_new, set_new, isLst_new, pow109, String.reduceBEq, String.reduceEq, Bool.false_or, Bool.true_or, Bool.or_false, Bool.or_true, e5, cut_to, s0, lk_long]
        rw [if_pos e6]
        simp [plainK, bindS, fin_same, Op.puts, Row.wants]
      | shw =>
        have e6 := s2 (ks.length - (Row.op Op.shw).wants.length) [Kd.enc .text] (by simp)
        simp only [Row.enc, Op.s]
        simp only [szs, fnM, rawM, seqM, ifM, tvM, truM, binM, unM, appM, consA, nilA, varM, conM, retM, retN, asgM, expM, raiseM, passS, callF, app1, app2, noExc, isExc_d, isExc_c, bindS_ok, bindS_err, bindS_stuck, Res.bind_ok, Res.bind_err, Res.bind_stuck, onBl_bl, andT, orT, notT, andV, orV, notV, tupM, lstM, toDs, toD, asD_d, asD_new, frzW_d, newT, newL, slM, slW, someO, noneO, ixW, addW, subW, mulW, modW, cmpW, negW, lenW, intW, tabW, isNonB, isNonW, isNon_d, List.map_cons, List.map_nil, List.length_cons, List.length_nil, List.replicate, List.append_nil, List.nil_append, List.cons_append, List.getElem?_cons_zero, List.getElem?_cons_succ, List.set_cons_zero, List.set_cons_succ, Nat.reduceAdd, Nat.reduceSub, if_true, if_false, ite_true, ite_false, Bool.not_true, Bool.not_false, Bool.and_true, Bool.and_false, Bool.false_eq_true, reduceIte, fin_same, finE_same, fin_new, atI_0, atI_1, atI_2, eqW_ofs, look_ofs, look_nil, dspC, newDc, inW, Option.isSome_some, Option.isSome_none, itM, forM, items_dl, items_dt, methL, methD, arg0, arg1, arg2, appendW, popW, listW, get_new, set_new, isLst_new, pow109, String.reduceBEq, String.reduceEq, Bool.false_or, Bool.true_or, Bool.or_false, Bool.or_true, e5, cut_to, s0, lk_show]
        rw [if_pos e6]
        simp [plainK, bindS, fin_same, Op.puts, Row.wants]
end Py

namespace Py
open PySem L2
end Py

namespace Py
open PySem L2
theorem p_behind_plain (pr : W) (ks : List Kd) (r : Row) (st : Store) (hr : r.ok) (hl : ks.length ≤ 400000) :
    s_p_behind [pr, .d (.tup (encK ks)), .d r.enc] st = match need ks r.wants with | some e => .err e st | none => .ok (.d (.tup (encK (plainK r ks)))) st := by
  have e := p_plainly_ok ks r st hr hl
  unfold s_p_behind b_p_behind
  cases q : need ks r.wants with
  | some c =>
    rw [q] at e
    cases r with
    | num v => simp only [Row.enc] at e ⊢; simp only [szs, fnM, rawM, seqM, ifM, tvM, truM, binM, unM, appM, consA, nilA, varM, conM, retM, retN, asgM, expM, raiseM, passS, callF, app1, app2, noExc, isExc_d, isExc_c, bindS_ok, bindS_err, bindS_stuck, Res.bind_ok, Res.bind_err, Res.bind_stuck, onBl_bl, andT, orT, notT, andV, orV, notV, tupM, lstM, toDs, toD, asD_d, asD_new, frzW_d, newT, newL, slM, slW, someO, noneO, ixW, addW, subW, mulW, modW, cmpW, negW, lenW, intW, tabW, isNonB, isNonW, isNon_d, List.map_cons, List.map_nil, List.length_cons, List.length_nil, List.replicate, List.append_nil, List.nil_append, List.cons_append, List.getElem?_cons_zero, List.getElem?_cons_succ, List.set_cons_zero, List.set_cons_succ, Nat.reduceAdd, Nat.reduceSub, if_true, if_false, ite_true, ite_false, Bool.not_true, Bool.not_false, Bool.and_true, Bool.and_false, Bool.false_eq_true, reduceIte, fin_same, finE_same, fin_new, atI_0, atI_1, atI_2, eqW_ofs, look_ofs, look_nil, dspC, newDc, inW, Option.isSome_some, Option.isSome_none, itM, forM, items_dl, items_dt, methL, methD, arg0, arg1, arg2, appendW, popW, listW, get_new, set_new, isLst_new, pow109, String.reduceBEq, String.reduceEq, Bool.false_or, Bool.true_or, Bool.or_false, Bool.or_true, e]
    | text v => simp only [Row.enc] at e ⊢; simp only [szs, fnM, rawM, seqM, ifM, tvM, truM, binM, unM, appM, consA, nilA, varM, conM, retM, retN, asgM, expM, raiseM, passS, callF, app1, app2, noExc, isExc_d, isExc_c, bindS_ok, bindS_err, bindS_stuck, Res.bind_ok, Res.bind_err, Res.bind_stuck, onBl_bl, andT, orT, notT, andV, orV, notV, tupM, lstM, toDs, toD, asD_d, asD_new, frzW_d, newT, newL, slM, slW, someO, noneO, ixW, addW, subW, mulW, modW, cmpW, negW, lenW, intW, tabW, isNonB, isNonW, isNon_d, List.map_cons, List.map_nil, List.length_cons, List.length_nil, List.replicate, List.append_nil, List.nil_append, List.cons_append, List.getElem?_cons_zero, List.getElem?_cons_succ, List.set_cons_zero, List.set_cons_succ, Nat.reduceAdd, Nat.reduceSub, if_true, if_false, ite_true, ite_false, Bool.not_true, Bool.not_false, Bool.and_true, Bool.and_false, Bool.false_eq_true, reduceIte, fin_same, finE_same, fin_new, atI_0, atI_1, atI_2, eqW_ofs, look_ofs, look_nil, dspC, newDc, inW, Option.isSome_some, Option.isSome_none, itM, forM, items_dl, items_dt, methL, methD, arg0, arg1, arg2, appendW, popW, listW, get_new, set_new, isLst_new, pow109, String.reduceBEq, String.reduceEq, Bool.false_or, Bool.true_or, Bool.or_false, Bool.or_true, e]
    | copy v => simp only [Row.enc] at e ⊢; simp only [szs, fnM, rawM, seqM, ifM, tvM, truM, binM, unM, appM, consA, nilA, varM, conM, retM, retN, asgM, expM, raiseM, passS, callF, app1, app2, noExc, isExc_d, isExc_c, bindS_ok, bindS_err, bindS_stuck, Res.bind_ok, Res.bind_err, Res.bind_stuck, onBl_bl, andT, orT, notT, andV, orV, notV, tupM, lstM, toDs, toD, asD_d, asD_new, frzW_d, newT, newL, slM, slW, someO, noneO, ixW, addW, subW, mulW, modW, cmpW, negW, lenW, intW, tabW, isNonB, isNonW, isNon_d, List.map_cons, List.map_nil, List.length_cons, List.length_nil, List.replicate, List.append_nil, List.nil_append, List.cons_append, List.getElem?_cons_zero, List.getElem?_cons_succ, List.set_cons_zero, List.set_cons_succ, Nat.reduceAdd, Nat.reduceSub, if_true, if_false, ite_true, ite_false, Bool.not_true, Bool.not_false, Bool.and_true, Bool.and_false, Bool.false_eq_true, reduceIte, fin_same, finE_same, fin_new, atI_0, atI_1, atI_2, eqW_ofs, look_ofs, look_nil, dspC, newDc, inW, Option.isSome_some, Option.isSome_none, itM, forM, items_dl, items_dt, methL, methD, arg0, arg1, arg2, appendW, popW, listW, get_new, set_new, isLst_new, pow109, String.reduceBEq, String.reduceEq, Bool.false_or, Bool.true_or, Bool.or_false, Bool.or_true, e]
    | op o => cases o <;> (simp only [Row.enc, Op.s] at e ⊢; simp only [szs, fnM, rawM, seqM, ifM, tvM, truM, binM, unM, appM, consA, nilA, varM, conM, retM, retN, asgM, expM, raiseM, passS, callF, app1, app2, noExc, isExc_d, isExc_c, bindS_ok, bindS_err, bindS_stuck, Res.bind_ok, Res.bind_err, Res.bind_stuck, onBl_bl, andT, orT, notT, andV, orV, notV, tupM, lstM, toDs, toD, asD_d, asD_new, frzW_d, newT, newL, slM, slW, someO, noneO, ixW, addW, subW, mulW, modW, cmpW, negW, lenW, intW, tabW, isNonB, isNonW, isNon_d, List.map_cons, List.map_nil, List.length_cons, List.length_nil, List.replicate, List.append_nil, List.nil_append, List.cons_append, List.getElem?_cons_zero, List.getElem?_cons_succ, List.set_cons_zero, List.set_cons_succ, Nat.reduceAdd, Nat.reduceSub, if_true, if_false, ite_true, ite_false, Bool.not_true, Bool.not_false, Bool.and_true, Bool.and_false, Bool.false_eq_true, reduceIte, fin_same, finE_same, fin_new, atI_0, atI_1, atI_2, eqW_ofs, look_ofs, look_nil, dspC, newDc, inW, Option.isSome_some, Option.isSome_none, itM, forM, items_dl, items_dt, methL, methD, arg0, arg1, arg2, appendW, popW, listW, get_new, set_new, isLst_new, pow109, String.reduceBEq, String.reduceEq, Bool.false_or, Bool.true_or, Bool.or_false, Bool.or_true, e])
  | none =>
    rw [q] at e
    cases r with
    | num v => simp only [Row.enc] at e ⊢; simp only [szs, fnM, rawM, seqM, ifM, tvM, truM, binM, unM, appM, consA, nilA, varM, conM, retM, retN, asgM, expM, raiseM, passS, callF, app1, app2, noExc, isExc_d, isExc_c, bindS_ok, bindS_err, bindS_stuck, Res.bind_ok, Res.bind_err, Res.bind_stuck, onBl_bl, andT, orT, notT, andV, orV, notV, tupM, lstM, toDs, toD, asD_d, asD_new, frzW_d, newT, newL, slM, slW, someO, noneO, ixW, addW, subW, mulW, modW, cmpW, negW, lenW, intW, tabW, isNonB, isNonW, isNon_d, List.map_cons, List.map_nil, List.length_cons, List.length_nil, List.replicate, List.append_nil, List.nil_append, List.cons_append, List.getElem?_cons_zero, List.getElem?_cons_succ, List.set_cons_zero, List.set_cons_succ, Nat.reduceAdd, Nat.reduceSub, if_true, if_false, ite_true, ite_false, Bool.not_true, Bool.not_false, Bool.and_true, Bool.and_false, Bool.false_eq_true, reduceIte, fin_same, finE_same, fin_new, atI_0, atI_1, atI_2, eqW_ofs, look_ofs, look_nil, dspC, newDc, inW, Option.isSome_some, Option.isSome_none, itM, forM, items_dl, items_dt, methL, methD, arg0, arg1, arg2, appendW, popW, listW, get_new, set_new, isLst_new, pow109, String.reduceBEq, String.reduceEq, Bool.false_or, Bool.true_or, Bool.or_false, Bool.or_true, e]
    | text v => simp only [Row.enc] at e ⊢; simp only [szs, fnM, rawM, seqM, ifM, tvM, truM, binM, unM, appM, consA, nilA, varM, conM, retM, retN, asgM, expM, raiseM, passS, callF, app1, app2, noExc, isExc_d, isExc_c, bindS_ok, bindS_err, bindS_stuck, Res.bind_ok, Res.bind_err, Res.bind_stuck, onBl_bl, andT, orT, notT, andV, orV, notV, tupM, lstM, toDs, toD, asD_d, asD_new, frzW_d, newT, newL, slM, slW, someO, noneO, ixW, addW, subW, mulW, modW, cmpW, negW, lenW, intW, tabW, isNonB, isNonW, isNon_d, List.map_cons, List.map_nil, List.length_cons, List.length_nil, List.replicate, List.append_nil, List.nil_append, List.cons_append, List.getElem?_cons_zero, List.getElem?_cons_succ, List.set_cons_zero, List.set_cons_succ, Nat.reduceAdd, Nat.reduceSub, if_true, if_false, ite_true, ite_false, Bool.not_true, Bool.not_false, Bool.and_true, Bool.and_false, Bool.false_eq_true, reduceIte, fin_same, finE_same, fin_new, atI_0, atI_1, atI_2, eqW_ofs, look_ofs, look_nil, dspC, newDc, inW, Option.isSome_some, Option.isSome_none, itM, forM, items_dl, items_dt, methL, methD, arg0, arg1, arg2, appendW, popW, listW, get_new, set_new, isLst_new, pow109, String.reduceBEq, String.reduceEq, Bool.false_or, Bool.true_or, Bool.or_false, Bool.or_true, e]
    | copy v => simp only [Row.enc] at e ⊢; simp only [szs, fnM, rawM, seqM, ifM, tvM, truM, binM, unM, appM, consA, nilA, varM, conM, retM, retN, asgM, expM, raiseM, passS, callF, app1, app2, noExc, isExc_d, isExc_c, bindS_ok, bindS_err, bindS_stuck, Res.bind_ok, Res.bind_err, Res.bind_stuck, onBl_bl, andT, orT, notT, andV, orV, notV, tupM, lstM, toDs, toD, asD_d, asD_new, frzW_d, newT, newL, slM, slW, someO, noneO, ixW, addW, subW, mulW, modW, cmpW, negW, lenW, intW, tabW, isNonB, isNonW, isNon_d, List.map_cons, List.map_nil, List.length_cons, List.length_nil, List.replicate, List.append_nil, List.nil_append, List.cons_append, List.getElem?_cons_zero, List.getElem?_cons_succ, List.set_cons_zero, List.set_cons_succ, Nat.reduceAdd, Nat.reduceSub, if_true, if_false, ite_true, ite_false, Bool.not_true, Bool.not_false, Bool.and_true, Bool.and_false, Bool.false_eq_true, reduceIte, fin_same, finE_same, fin_new, atI_0, atI_1, atI_2, eqW_ofs, look_ofs, look_nil, dspC, newDc, inW, Option.isSome_some, Option.isSome_none, itM, forM, items_dl, items_dt, methL, methD, arg0, arg1, arg2, appendW, popW, listW, get_new, set_new, isLst_new, pow109, String.reduceBEq, String.reduceEq, Bool.false_or, Bool.true_or, Bool.or_false, Bool.or_true, e]
    | op o => cases o <;> (simp only [Row.enc, Op.s] at e ⊢; simp only [szs, fnM, rawM, seqM, ifM, tvM, truM, binM, unM, appM, consA, nilA, varM, conM, retM, retN, asgM, expM, raiseM, passS, callF, app1, app2, noExc, isExc_d, isExc_c, bindS_ok, bindS_err, bindS_stuck, Res.bind_ok, Res.bind_err, Res.bind_stuck, onBl_bl, andT, orT, notT, andV, orV, notV, tupM, lstM, toDs, toD, asD_d, asD_new, frzW_d, newT, newL, slM, slW, someO, noneO, ixW, addW, subW, mulW, modW, cmpW, negW, lenW, intW, tabW, isNonB, isNonW, isNon_d, List.map_cons, List.map_nil, List.length_cons, List.length_nil, List.replicate, List.append_nil, List.nil_append, List.cons_append, List.getElem?_cons_zero, List.getElem?_cons_succ, List.set_cons_zero, List.set_cons_succ, Nat.reduceAdd, Nat.reduceSub, if_true, if_false, ite_true, ite_false, Bool.not_true, Bool.not_false, Bool.and_true, Bool.and_false, Bool.false_eq_true, reduceIte, fin_same, finE_same, fin_new, atI_0, atI_1, atI_2, eqW_ofs, look_ofs, look_nil, dspC, newDc, inW, Option.isSome_some, Option.isSome_none, itM, forM, items_dl, items_dt, methL, methD, arg0, arg1, arg2, appendW, popW, listW, get_new, set_new, isLst_new, pow109, String.reduceBEq, String.reduceEq, Bool.false_or, Bool.true_or, Bool.or_false, Bool.or_true, e])
end Py

namespace Py
open PySem L2
end Py

namespace Py
open PySem L2
end Py

namespace Py
open PySem L2
theorem lplainly_ok (ks : List Kd) (r : Row) (st : Store) (hr : r.ok) (hl : ks.length ≤ 400000) (q : need ks r.wants = none) :
    s_plainly [.d (.lst (encK ks)), .d r.enc] st = .ok (.d (.lst (encK (plainK r ks)))) st := by
  unfold s_plainly b_plainly
  have hwl := (need_none q).1
  have e5 : ((encK ks).length : Int) - ((encL r.wants).length : Int) = ((ks.length - r.wants.length : Nat) : Int) := by rw [List.length_map, List.length_map]; omega
  have s0 : ∀ n, (List.take n (encK ks)).length ≤ sizeLine := fun n => small (by rw [List.length_take, List.length_map]; omega)
  have s1 : ∀ x : D, (encK ks ++ [x]).length ≤ sizeLine := fun x => small (by simp; omega)
  have s2 : ∀ n (x : D), (List.take n (encK ks) ++ [x]).length ≤ sizeLine := fun n x => small (by rw [List.length_append, List.length_take, List.length_map]; simp; omega)
  have hw := lwanted_ok r hr st
  cases r with
  | num v =>
    simp only [Row.enc] at hw ⊢
    simp only [szs, fnM, rawM, seqM, ifM, tvM, truM, binM, unM, appM, consA, nilA, varM, conM, retM, retN, asgM, expM, raiseM, passS, callF, app1, app2, noExc, isExc_d, isExc_c, bindS_ok, bindS_err, bindS_stuck, Res.bind_ok, Res.bind_err, Res.bind_stuck, onBl_bl, andT, orT, notT, andV, orV, notV, tupM, lstM, toDs, toD, asD_d, asD_new, frzW_d, newT, newL, slM, slW, someO, noneO, ixW, addW, subW, mulW, modW, cmpW, negW, lenW, intW, tabW, isNonB, isNonW, isNon_d, List.map_cons, List.map_nil, List.length_cons, List.length_nil, List.replicate, List.append_nil, List.nil_append, List.cons_append, List.getElem?_cons_zero, List.getElem?_cons_succ, List.set_cons_zero, List.set_cons_succ, Nat.reduceAdd, Nat.reduceSub, if_true, if_false, ite_true, ite_false, Bool.not_true, Bool.not_false, Bool.and_true, Bool.and_false, Bool.false_eq_true, reduceIte, fin_same, finE_same, fin_new, atI_0, atI_1, atI_2, eqW_ofs, look_ofs, look_nil, dspC, newDc, inW, Option.isSome_some, Option.isSome_none, itM, forM, items_dl, items_dt, methL, methD, arg0, arg1, arg2, appendW, popW, listW, get_new, set_new, isLst_new, pow109, String.reduceBEq, String.reduceEq, Bool.false_or, Bool.true_or, Bool.or_false, Bool.or_true, hw, e5, cut_to, s0, s2]
    simp [plainK, Row.wants, Kd.enc, Kd.s]
    exact List.take_of_length_le (by rw [List.length_map]; exact Nat.le_refl _)
  | text v =>
    simp only [Row.enc] at hw ⊢
    simp only [szs, fnM, rawM, seqM, ifM, tvM, truM, binM, unM, appM, consA, nilA, varM, conM, retM, retN, asgM, expM, raiseM, passS, callF, app1, app2, noExc, isExc_d, isExc_c, bindS_ok, bindS_err, bindS_stuck, Res.bind_ok, Res.bind_err, Res.bind_stuck, onBl_bl, andT, orT, notT, andV, orV, notV, tupM, lstM, toDs, toD, asD_d, asD_new, frzW_d, newT, newL, slM, slW, someO, noneO, ixW, addW, subW, mulW, modW, cmpW, negW, lenW, intW, tabW, isNonB, isNonW, isNon_d, List.map_cons, List.map_nil, List.length_cons, List.length_nil, List.replicate, List.append_nil, List.nil_append, List.cons_append, List.getElem?_cons_zero, List.getElem?_cons_succ, List.set_cons_zero, List.set_cons_succ, Nat.reduceAdd, Nat.reduceSub, if_true, if_false, ite_true, ite_false, Bool.not_true, Bool.not_false, Bool.and_true, Bool.and_false, Bool.false_eq_true, reduceIte, fin_same, finE_same, fin_new, atI_0, atI_1, atI_2, eqW_ofs, look_ofs, look_nil, dspC, newDc, inW, Option.isSome_some, Option.isSome_none, itM, forM, items_dl, items_dt, methL, methD, arg0, arg1, arg2, appendW, popW, listW, get_new, set_new, isLst_new, pow109, String.reduceBEq, String.reduceEq, Bool.false_or, Bool.true_or, Bool.or_false, Bool.or_true, hw, e5, cut_to, s0, s2]
    simp [plainK, Row.wants, Kd.enc, Kd.s]
    exact List.take_of_length_le (by rw [List.length_map]; exact Nat.le_refl _)
  | copy k =>
    have hk : k + 1 ≤ ks.length := by simpa [Row.wants] using hwl
    have e7 : ((encK ks).length : Int) - 1 - (k : Int) = ((ks.length - 1 - k : Nat) : Int) := by rw [List.length_map]; omega
    have e8 : (encK ks)[ks.length - 1 - k]? = some (ks.reverse.getD k .num).enc := by
      rw [List.getElem?_map, List.getD_eq_getElem?_getD, List.getElem?_reverse (by omega)]
      have : ks.length - 1 - k < ks.length := by omega
      rw [List.getElem?_eq_getElem this]; rfl
    simp only [Row.enc] at hw ⊢
    simp only [szs, fnM, rawM, seqM, ifM, tvM, truM, binM, unM, appM, consA, nilA, varM, conM, retM, retN, asgM, expM, raiseM, passS, callF, app1, app2, noExc, isExc_d, isExc_c, bindS_ok, bindS_err, bindS_stuck, Res.bind_ok, Res.bind_err, Res.bind_stuck, onBl_bl, andT, orT, notT, andV, orV, notV, tupM, lstM, toDs, toD, asD_d, asD_new, frzW_d, newT, newL, slM, slW, someO, noneO, ixW, addW, subW, mulW, modW, cmpW, negW, lenW, intW, tabW, isNonB, isNonW, isNon_d, List.map_cons, List.map_nil, List.length_cons, List.length_nil, List.replicate, List.append_nil, List.nil_append, List.cons_append, List.getElem?_cons_zero, List.getElem?_cons_succ, List.set_cons_zero, List.set_cons_succ, Nat.reduceAdd, Nat.reduceSub, if_true, if_false, ite_true, ite_false, Bool.not_true, Bool.not_false, Bool.and_true, Bool.and_false, Bool.false_eq_true, reduceIte, fin_same, finE_same, fin_new, atI_0, atI_1, atI_2, eqW_ofs, look_ofs, look_nil, dspC, newDc, inW, Option.isSome_some, Option.isSome_none, itM, forM, items_dl, items_dt, methL, methD, arg0, arg1, arg2, appendW, popW, listW, get_new, set_new, isLst_new, pow109, String.reduceBEq, String.reduceEq, Bool.false_or, Bool.true_or, Bool.or_false, Bool.or_true, hw, e5, cut_to, s0, e7, atI_nat, e8, s1]
    simp [plainK]
  | op o =>
    cases o with
    | swap =>
      obtain ⟨us, a, b, rfl, _, _⟩ := ktop2 q
      have e9 : List.take ((us ++ [a, b]).length - (Row.op Op.swap).wants.length) (encK (us ++ [a, b])) = encK us := by simp [Row.wants, Op.wants]
      have e6 : (encK us ++ [b.enc, a.enc]).length ≤ sizeLine := small (by simp at hl ⊢; omega)
      have e10 : (encK us).length ≤ sizeLine := small (by simp at hl ⊢; omega)
      simp only [Row.enc, Op.s] at hw ⊢
      simp only [szs, fnM, rawM, seqM, ifM, tvM, truM, binM, unM, appM, consA, nilA, varM, conM, retM, retN, asgM, expM, raiseM, passS, callF, app1, app2, noExc, isExc_d, isExc_c, bindS_ok, bindS_err, bindS_stuck, Res.bind_ok, Res.bind_err, Res.bind_stuck, onBl_bl, andT, orT, notT, andV, orV, notV, tupM, lstM, toDs, toD, asD_d, asD_new, frzW_d, newT, newL, slM, slW, someO, noneO, ixW, addW, subW, mulW, modW, cmpW, negW, lenW, intW, tabW, isNonB, isNonW, isNon_d, List.map_cons, List.map_nil, List.length_cons, List.length_nil, List.replicate, List.append_nil, List.nil_append, List.cons_append, List.getElem?_cons_zero, List.getElem?_cons_succ, List.set_cons_zero, List.set_cons_succ, Nat.reduceAdd, Nat.reduceSub, if_true, if_false, ite_true, ite_false, Bool.not_true, Bool.not_false, Bool.and_true, Bool.and_false, Bool.false_eq_true, reduceIte, fin_same, finE_same, fin_new, atI_0, atI_1, atI_2, eqW_ofs, look_ofs, look_nil, dspC, newDc, inW, Option.isSome_some, Option.isSome_none, itM, forM, items_dl, items_dt, methL, methD, arg0, arg1, arg2, appendW, popW, listW, get_new, set_new, isLst_new, pow109, String.reduceBEq, String.reduceEq, Bool.false_or, Bool.true_or, Bool.or_false, Bool.or_true, hw, e5, cut_to, e9, e10, Int.reduceNeg, kat21, kat22, e6]
      simp [plainK]
    | drop =>
      simp only [Row.enc, Op.s] at hw ⊢
      simp only [szs, fnM, rawM, seqM, ifM, tvM, truM, binM, unM, appM, consA, nilA, varM, conM, retM, retN, asgM, expM, raiseM, passS, callF, app1, app2, noExc, isExc_d, isExc_c, bindS_ok, bindS_err, bindS_stuck, Res.bind_ok, Res.bind_err, Res.bind_stuck, onBl_bl, andT, orT, notT, andV, orV, notV, tupM, lstM, toDs, toD, asD_d, asD_new, frzW_d, newT, newL, slM, slW, someO, noneO, ixW, addW, subW, mulW, modW, cmpW, negW, lenW, intW, tabW, isNonB, isNonW, isNon_d, List.map_cons, List.map_nil, List.length_cons, List.length_nil, List.replicate, List.append_nil, List.nil_append, List.cons_append, List.getElem?_cons_zero, List.getElem?_cons_succ, List.set_cons_zero, List.set_cons_succ, Nat.reduceAdd, Nat.reduceSub, if_true, if_false, ite_true, ite_false, Bool.not_true, Bool.not_false, Bool.and_true, Bool.and_false, Bool.false_eq_true, reduceIte, fin_same, finE_same, fin_new, atI_0, atI_1, atI_2, eqW_ofs, look_ofs, look_nil, dspC, newDc, inW, Option.isSome_some, Option.isSome_none, itM, forM, items_dl, items_dt, methL, methD, arg0, arg1, arg2, appendW, popW, listW, get_new, set_new, isLst_new, pow109, String.reduceBEq, String.reduceEq, Bool.false_or, Bool.true_or, Bool.or_false, Bool.or_true, hw, e5, cut_to, s0]
      simp [plainK, Op.puts, Row.wants]
    | _ =>
      simp only [Row.enc, Op.s] at hw ⊢
      simp only [szs, fnM, rawM, seqM, ifM, tvM, truM, binM, unM, appM, consA, nilA, varM, conM, retM, retN, asgM, expM, raiseM, passS, callF, app1, app2, noExc, isExc_d, isExc_c, bindS_ok, bindS_err, bindS_stuck, Res.bind_ok, Res.bind_err, Res.bind_stuck, onBl_bl, andT, orT, notT, andV, orV, notV, tupM, lstM, toDs, toD, asD_d, asD_new, frzW_d, newT, newL, slM, slW, someO, noneO, ixW, addW, subW, mulW, modW, cmpW, negW, lenW, intW, tabW, isNonB, isNonW, isNon_d, List.map_cons, List.map_nil, List.length_cons, List.length_nil, List.replicate, List.append_nil, List.nil_append, List.cons_append, List.getElem?_cons_zero, List.getElem?_cons_succ, List.set_cons_zero, List.set_cons_succ, Nat.reduceAdd, Nat.reduceSub, if_true, if_false, ite_true, ite_false, Bool.not_true, Bool.not_false, Bool.and_true, Bool.and_false, Bool.false_eq_true, reduceIte, fin_same, finE_same, fin_new, atI_0, atI_1, atI_2, eqW_ofs, look_ofs, look_nil, dspC, newDc, inW, Option.isSome_some, Option.isSome_none, itM, forM, items_dl, items_dt, methL, methD, arg0, arg1, arg2, appendW, popW, listW, get_new, set_new, isLst_new, pow109, String.reduceBEq, String.reduceEq, Bool.false_or, Bool.true_or, Bool.or_false, Bool.or_true, hw, e5, cut_to, s0, s2]
      simp [plainK, Op.puts, Row.wants, Kd.enc, Kd.s]
end Py

namespace Py
open PySem L2
theorem fineK : ∀ (ks : List Kd), fineL (encK ks) = true
  | [] => rfl
  | k :: ks => by
    show (k.enc.fine && fineL (encK ks)) = true
    rw [fineK ks, Bool.and_true]; exact fine_ofs k.s
theorem depK : ∀ (ks : List Kd), depL (encK ks) = 0
  | [] => rfl
  | k :: ks => by
    show max k.enc.dep (depL (encK ks)) = 0
    rw [depK ks]; rfl
end Py

namespace Py
open PySem L2
/-! ### rows, blocks, programs -/
inductive Rw where
  | plain (r : Row) | call (n : Str) | iff (a b : Str)
def Rw.enc : Rw → D
  | .plain r => r.enc
  | .call n => .tup [.str "call", .str n]
  | .iff a b => .tup [.str "if", .str a, .str b]
structure NmOk (n : Str) : Prop where
  ok : PyData.strOk n = true
  lo : 1 ≤ n.length
  hi : n.length ≤ 300
def Rw.ok : Rw → Prop
  | .plain r => r.ok
  | .call n => PyData.strOk n = true
  | .iff a b => PyData.strOk a = true ∧ PyData.strOk b = true
/-- what a dict of programs tells of the kinds -/
abbrev Tl := Str → Option (List Kd × List Kd)
def Sees (kvs : List (Str × D)) (f : Tl) : Prop := ∀ n, match f n with
  | none => look n kvs = none
  | some (i, o) => ∃ r, look n kvs = some (.tup (.tup (encK i) :: .tup (encK o) :: r))
def Small (f : Tl) : Prop := ∀ n i o, f n = some (i, o) → i.length ≤ 60 ∧ o.length ≤ 60
def calledK (ks i o : List Kd) : Except Exc (List Kd) := match need ks (i.map some) with
  | some e => .error e
  | none => .ok (ks.take (ks.length - i.length) ++ o)
def nextK (f : Tl) (ks : List Kd) : Rw → Except Exc (List Kd)
  | .plain r => match need ks r.wants with
    | some e => .error e
    | none => .ok (plainK r ks)
  | .call n => match f n with
    | none => .error .block
    | some (i, o) => calledK ks i o
  | .iff a b => match need ks [some .num] with
    | some e => .error e
    | none => match f a, f b with
      | some (i, o), some (i', o') => if i = i' ∧ o = o' then calledK ks.dropLast i o else .error .apart
      | _, _ => .error .block
theorem eqvK2 : ∀ (a b : List Kd), eqvL (encK a) (encK b) = decide (a = b)
  | [], [] => rfl
  | [], _ :: _ => rfl
  | _ :: _, [] => rfl
  | a :: as, b :: bs => by
    show (a.enc.eqv b.enc && eqvL (encK as) (encK bs)) = _
    rw [eqvK2 as bs]
    cases a <;> cases b <;> simp [Kd.enc, Kd.s, D.eqv, ofString_beq]
theorem eqW_K (neg : Bool) (a b : List Kd) (st : Store) : eqW neg (.d (.tup (encK a))) (.d (.tup (encK b))) st = .ok (.d (.bl (if neg then !(decide (a = b)) else decide (a = b)))) st := by
  unfold eqW
  have : eqD (.tup (encK a)) (.tup (encK b)) = some (decide (a = b)) := by
    unfold eqD
    simp only [D.fine, D.dep, fineK, depK, D.eqv, eqvK2]
    simp
  simp only [asD_d, this]
theorem encO_some (i : List Kd) : (i.map some).map encO = encK i := by rw [List.map_map]; rfl
theorem encL_some (i : List Kd) : encL (i.map some) = encK i := by unfold encL; rw [List.map_map]; rfl
theorem p_called_ok (ks i o : List Kd) (r : List D) (st : Store) (hl : ks.length ≤ 400000) (ho : o.length ≤ 60) :
    s_p_called [.d (.tup (encK ks)), .d (.tup (.tup (encK i) :: .tup (encK o) :: r))] st = match calledK ks i o with | .error e => .err e st | .ok ks' => .ok (.d (.tup (encK ks'))) st := by
  have e := need_ok ks (i.map some) st (by omega)
  rw [encO_some] at e
  unfold s_p_called b_p_called calledK
  cases q : need ks (i.map some) with
  | some c =>
    rw [q] at e
    simp only [szs, fnM, rawM, seqM, ifM, tvM, truM, binM, unM, appM, consA, nilA, varM, conM, retM, retN, asgM, expM, raiseM, passS, callF, app1, app2, noExc, isExc_d, isExc_c, bindS_ok, bindS_err, bindS_stuck, Res.bind_ok, Res.bind_err, Res.bind_stuck, onBl_bl, andT, orT, notT, andV, orV, notV, tupM, lstM, toDs, toD, asD_d, asD_new, frzW_d, newT, newL, slM, slW, someO, noneO, ixW, addW, subW, mulW, modW, cmpW, negW, lenW, intW, tabW, isNonB, isNonW, isNon_d, List.map_cons, List.map_nil, List.length_cons, List.length_nil, List.replicate, List.append_nil, List.nil_append, List.cons_append, List.getElem?_cons_zero, List.getElem?_cons_succ, List.set_cons_zero, List.set_cons_succ, Nat.reduceAdd, Nat.reduceSub, if_true, if_false, ite_true, ite_false, Bool.not_true, Bool.not_false, Bool.and_true, Bool.and_false, Bool.false_eq_true, reduceIte, fin_same, finE_same, fin_new, atI_0, atI_1, atI_2, eqW_ofs, look_ofs, look_nil, dspC, newDc, inW, Option.isSome_some, Option.isSome_none, itM, forM, items_dl, items_dt, methL, methD, arg0, arg1, arg2, appendW, popW, listW, get_new, set_new, isLst_new, pow109, String.reduceBEq, String.reduceEq, Bool.false_or, Bool.true_or, Bool.or_false, Bool.or_true, e]
  | none =>
    rw [q] at e
    have hwl := (need_none q).1
    rw [List.length_map] at hwl
    have e5 : ((encK ks).length : Int) - ((encK i).length : Int) = ((ks.length - i.length : Nat) : Int) := by rw [List.length_map, List.length_map]; omega
    have s1 : (List.take (ks.length - i.length) (encK ks)).length ≤ sizeLine := small (by rw [List.length_take, List.length_map]; omega)
    have s2 : (List.take (ks.length - i.length) (encK ks) ++ encK o).length ≤ sizeLine := small (by rw [List.length_append, List.length_take, List.length_map, List.length_map]; omega)
    simp only [szs, fnM, rawM, seqM, ifM, tvM, truM, binM, unM, appM, consA, nilA, varM, conM, retM, retN, asgM, expM, raiseM, passS, callF, app1, app2, noExc, isExc_d, isExc_c, bindS_ok, bindS_err, bindS_stuck, Res.bind_ok, Res.bind_err, Res.bind_stuck, onBl_bl, andT, orT, notT, andV, orV, notV, tupM, lstM, toDs, toD, asD_d, asD_new, frzW_d, newT, newL, slM, slW, someO, noneO, ixW, addW, subW, mulW, modW, cmpW, negW, lenW, intW, tabW, isNonB, isNonW, isNon_d, List.map_cons, List.map_nil, List.length_cons, List.length_nil, List.replicate, List.append_nil, List.nil_append, List.cons_append, List.getElem?_cons_zero, List.getElem?_cons_succ, List.set_cons_zero, List.set_cons_succ, Nat.reduceAdd, Nat.reduceSub, if_true, if_false, ite_true, ite_false, Bool.not_true, Bool.not_false, Bool.and_true, Bool.and_false, Bool.false_eq_true, reduceIte, fin_same, finE_same, fin_new, atI_0, atI_1, atI_2, eqW_ofs, look_ofs, look_nil, dspC, newDc, inW, Option.isSome_some, Option.isSome_none, itM, forM, items_dl, items_dt, methL, methD, arg0, arg1, arg2, appendW, popW, listW, get_new, set_new, isLst_new, pow109, String.reduceBEq, String.reduceEq, Bool.false_or, Bool.true_or, Bool.or_false, Bool.or_true, e, e5, cut_to, s1, s2]
    simp
theorem sees_none {kvs : List (Str × D)} {f : Tl} {n : Str} (h : Sees kvs f) (e : f n = none) : look n kvs = none := by
  have := h n; rw [e] at this; exact this
theorem sees_some {kvs : List (Str × D)} {f : Tl} {n : Str} {i o : List Kd} (h : Sees kvs f) (e : f n = some (i, o)) : ∃ r, look n kvs = some (.tup (.tup (encK i) :: .tup (encK o) :: r)) := by
  have := h n; rw [e] at this; exact this
theorem p_block_none (w : W) (kvs : List (Str × D)) (n : Str) (st : Store) (hw : asD st w = some (.dct kvs)) (e : look n kvs = none) : s_p_block_of [w, .d (.str n)] st = .err .block st := by
  unfold s_p_block_of b_p_block_of
  simp only [szs, fnM, rawM, seqM, ifM, tvM, truM, binM, unM, appM, consA, nilA, varM, conM, retM, retN, asgM, expM, raiseM, passS, callF, app1, app2, noExc, isExc_d, isExc_c, bindS_ok, bindS_err, bindS_stuck, Res.bind_ok, Res.bind_err, Res.bind_stuck, onBl_bl, andT, orT, notT, andV, orV, notV, tupM, lstM, toDs, toD, asD_d, asD_new, frzW_d, newT, newL, slM, slW, someO, noneO, ixW, addW, subW, mulW, modW, cmpW, negW, lenW, intW, tabW, isNonB, isNonW, isNon_d, List.map_cons, List.map_nil, List.length_cons, List.length_nil, List.replicate, List.append_nil, List.nil_append, List.cons_append, List.getElem?_cons_zero, List.getElem?_cons_succ, List.set_cons_zero, List.set_cons_succ, Nat.reduceAdd, Nat.reduceSub, if_true, if_false, ite_true, ite_false, Bool.not_true, Bool.not_false, Bool.and_true, Bool.and_false, Bool.false_eq_true, reduceIte, fin_same, finE_same, fin_new, atI_0, atI_1, atI_2, eqW_ofs, look_ofs, look_nil, dspC, newDc, inW, Option.isSome_some, Option.isSome_none, itM, forM, items_dl, items_dt, methL, methD, arg0, arg1, arg2, appendW, popW, listW, get_new, set_new, isLst_new, pow109, String.reduceBEq, String.reduceEq, Bool.false_or, Bool.true_or, Bool.or_false, Bool.or_true, hw, e]
theorem p_block_some (w : W) (kvs : List (Str × D)) (n : Str) (v : D) (st : Store) (hw : asD st w = some (.dct kvs)) (e : look n kvs = some v) : s_p_block_of [w, .d (.str n)] st = .ok (.d v) st := by
  unfold s_p_block_of b_p_block_of
  simp only [szs, fnM, rawM, seqM, ifM, tvM, truM, binM, unM, appM, consA, nilA, varM, conM, retM, retN, asgM, expM, raiseM, passS, callF, app1, app2, noExc, isExc_d, isExc_c, bindS_ok, bindS_err, bindS_stuck, Res.bind_ok, Res.bind_err, Res.bind_stuck, onBl_bl, andT, orT, notT, andV, orV, notV, tupM, lstM, toDs, toD, asD_d, asD_new, frzW_d, newT, newL, slM, slW, someO, noneO, ixW, addW, subW, mulW, modW, cmpW, negW, lenW, intW, tabW, isNonB, isNonW, isNon_d, List.map_cons, List.map_nil, List.length_cons, List.length_nil, List.replicate, List.append_nil, List.nil_append, List.cons_append, List.getElem?_cons_zero, List.getElem?_cons_succ, List.set_cons_zero, List.set_cons_succ, Nat.reduceAdd, Nat.reduceSub, if_true, if_false, ite_true, ite_false, Bool.not_true, Bool.not_false, Bool.and_true, Bool.and_false, Bool.false_eq_true, reduceIte, fin_same, finE_same, fin_new, atI_0, atI_1, atI_2, eqW_ofs, look_ofs, look_nil, dspC, newDc, inW, Option.isSome_some, Option.isSome_none, itM, forM, items_dl, items_dt, methL, methD, arg0, arg1, arg2, appendW, popW, listW, get_new, set_new, isLst_new, pow109, String.reduceBEq, String.reduceEq, Bool.false_or, Bool.true_or, Bool.or_false, Bool.or_true, hw, e]
theorem cut1K (us : List Kd) (a : Kd) : cut (encK (us ++ [a])) none (some (-1)) = encK us := by
  have := cut_neg (encK (us ++ [a])) 1 (by decide)
  rw [show (-((1 : Nat) : Int)) = -1 from rfl] at this
  rw [this]
  simp
theorem p_behind_ok (w : W) (kvs : List (Str × D)) (f : Tl) (ks : List Kd) (r : Rw) (st : Store) (hw : asD st w = some (.dct kvs)) (hs : Sees kvs f) (hf : Small f) (hr : r.ok) (hl : ks.length ≤ 400000) :
    s_p_behind [w, .d (.tup (encK ks)), .d r.enc] st = match nextK f ks r with | .error e => .err e st | .ok ks' => .ok (.d (.tup (encK ks'))) st := by
  have hx : w.isExc = false := noExc_of hw
  cases r with
  | plain r =>
    have e := p_behind_plain w ks r st hr hl
    simp only [Rw.enc, e, nextK]
    cases need ks r.wants <;> rfl
  | call n =>
    unfold s_p_behind b_p_behind
    simp only [Rw.enc, nextK]
    cases q : f n with
    | none =>
      have b := p_block_none w kvs n st hw (sees_none hs q)
      simp only [szs, fnM, rawM, seqM, ifM, tvM, truM, binM, unM, appM, consA, nilA, varM, conM, retM, retN, asgM, expM, raiseM, passS, callF, app1, app2, noExc, isExc_d, isExc_c, bindS_ok, bindS_err, bindS_stuck, Res.bind_ok, Res.bind_err, Res.bind_stuck, onBl_bl, andT, orT, notT, andV, orV, notV, tupM, lstM, toDs, toD, asD_d, asD_new, frzW_d, newT, newL, slM, slW, someO, noneO, ixW, addW, subW, mulW, modW, cmpW, negW, lenW, intW, tabW, isNonB, isNonW, isNon_d, List.map_cons, List.map_nil, List.length_cons, List.length_nil, List.replicate, List.append_nil, List.nil_append, List.cons_append, List.getElem?_cons_zero, List.getElem?_cons_succ, List.set_cons_zero, List.set_cons_succ, Nat.reduceAdd, Nat.reduceSub, if_true, if_false, ite_true, ite_false, Bool.not_true, Bool.not_false, Bool.and_true, Bool.and_false, Bool.false_eq_true, reduceIte, fin_same, finE_same, fin_new, atI_0, atI_1, atI_2, eqW_ofs, look_ofs, look_nil, dspC, newDc, inW, Option.isSome_some, Option.isSome_none, itM, forM, items_dl, items_dt, methL, methD, arg0, arg1, arg2, appendW, popW, listW, get_new, set_new, isLst_new, pow109, String.reduceBEq, String.reduceEq, Bool.false_or, Bool.true_or, Bool.or_false, Bool.or_true, hx, b]
    | some io =>
      obtain ⟨i, o⟩ := io
      obtain ⟨rr, hlk⟩ := sees_some hs q
      have b := p_block_some w kvs n _ st hw hlk
      have c := p_called_ok ks i o rr st (by omega) (hf n i o q).2
      simp only [szs, fnM, rawM, seqM, ifM, tvM, truM, binM, unM, appM, consA, nilA, varM, conM, retM, retN, asgM, expM, raiseM, passS, callF, app1, app2, noExc, isExc_d, isExc_c, bindS_ok, bindS_err, bindS_stuck, Res.bind_ok, Res.bind_err, Res.bind_stuck, onBl_bl, andT, orT, notT, andV, orV, notV, tupM, lstM, toDs, toD, asD_d, asD_new, frzW_d, newT, newL, slM, slW, someO, noneO, ixW, addW, subW, mulW, modW, cmpW, negW, lenW, intW, tabW, isNonB, isNonW, isNon_d, List.map_cons, List.map_nil, List.length_cons, List.length_nil, List.replicate, List.append_nil, List.nil_append, List.cons_append, List.getElem?_cons_zero, List.getElem?_cons_succ, List.set_cons_zero, List.set_cons_succ, Nat.reduceAdd, Nat.reduceSub, if_true, if_false, ite_true, ite_false, Bool.not_true, Bool.not_false, Bool.and_true, Bool.and_false, Bool.false_eq_true, reduceIte, fin_same, finE_same, fin_new, atI_0, atI_1, atI_2, eqW_ofs, look_ofs, look_nil, dspC, newDc, inW, Option.isSome_some, Option.isSome_none, itM, forM, items_dl, items_dt, methL, methD, arg0, arg1, arg2, appendW, popW, listW, get_new, set_new, isLst_new, pow109, String.reduceBEq, String.reduceEq, Bool.false_or, Bool.true_or, Bool.or_false, Bool.or_true, hx, b]
      rw [c]
      cases calledK ks i o <;> simp only [szs, fnM, rawM, seqM, ifM, tvM, truM, binM, unM, appM, consA, nilA, varM, conM, retM, retN, asgM, expM, raiseM, passS, callF, app1, app2, noExc, isExc_d, isExc_c, bindS_ok, bindS_err, bindS_stuck, Res.bind_ok, Res.bind_err, Res.bind_stuck, onBl_bl, andT, orT, notT, andV, orV, notV, tupM, lstM, toDs, toD, asD_d, asD_new, frzW_d, newT, newL, slM, slW, someO, noneO, ixW, addW, subW, mulW, modW, cmpW, negW, lenW, intW, tabW, isNonB, isNonW, isNon_d, List.map_cons, List.map_nil, List.length_cons, List.length_nil, List.replicate, List.append_nil, List.nil_append, List.cons_append, List.getElem?_cons_zero, List.getElem?_cons_succ, List.set_cons_zero, List.set_cons_succ, Nat.reduceAdd, Nat.reduceSub, if_true, if_false, ite_true, ite_false, Bool.not_true, Bool.not_false, Bool.and_true, Bool.and_false, Bool.false_eq_true, reduceIte, fin_same, finE_same, fin_new, atI_0, atI_1, atI_2, eqW_ofs, look_ofs, look_nil, dspC, newDc, inW, Option.isSome_some, Option.isSome_none, itM, forM, items_dl, items_dt, methL, methD, arg0, arg1, arg2, appendW, popW, listW, get_new, set_new, isLst_new, pow109, String.reduceBEq, String.reduceEq, Bool.false_or, Bool.true_or, Bool.or_false, Bool.or_true]
  | iff a b =>
    unfold s_p_behind b_p_behind
    simp only [Rw.enc, nextK]
    have e := need_ok ks [some .num] st (by omega)
    have e0 : (.tup (List.map encO [some Kd.num]) : D) = .tup [.str "num"] := rfl
    rw [e0] at e
    cases q : need ks [some .num] with
    | some c =>
      rw [q] at e
      simp only [szs, fnM, rawM, seqM, ifM, tvM, truM, binM, unM, appM, consA, nilA, varM, conM, retM, retN, asgM, expM, raiseM, passS, callF, app1, app2, noExc, isExc_d, isExc_c, bindS_ok, bindS_err, bindS_stuck, Res.bind_ok, Res.bind_err, Res.bind_stuck, onBl_bl, andT, orT, notT, andV, orV, notV, tupM, lstM, toDs, toD, asD_d, asD_new, frzW_d, newT, newL, slM, slW, someO, noneO, ixW, addW, subW, mulW, modW, cmpW, negW, lenW, intW, tabW, isNonB, isNonW, isNon_d, List.map_cons, List.map_nil, List.length_cons, List.length_nil, List.replicate, List.append_nil, List.nil_append, List.cons_append, List.getElem?_cons_zero, List.getElem?_cons_succ, List.set_cons_zero, List.set_cons_succ, Nat.reduceAdd, Nat.reduceSub, if_true, if_false, ite_true, ite_false, Bool.not_true, Bool.not_false, Bool.and_true, Bool.and_false, Bool.false_eq_true, reduceIte, fin_same, finE_same, fin_new, atI_0, atI_1, atI_2, eqW_ofs, look_ofs, look_nil, dspC, newDc, inW, Option.isSome_some, Option.isSome_none, itM, forM, items_dl, items_dt, methL, methD, arg0, arg1, arg2, appendW, popW, listW, get_new, set_new, isLst_new, pow109, String.reduceBEq, String.reduceEq, Bool.false_or, Bool.true_or, Bool.or_false, Bool.or_true, hx, e]
    | none =>
      rw [q] at e
      obtain ⟨us, k0, hks, _⟩ := ktop1 q
      subst hks
      cases qa : f a with
      | none =>
        have ba := p_block_none w kvs a st hw (sees_none hs qa)
        simp only [szs, fnM, rawM, seqM, ifM, tvM, truM, binM, unM, appM, consA, nilA, varM, conM, retM, retN, asgM, expM, raiseM, passS, callF, app1, app2, noExc, isExc_d, isExc_c, bindS_ok, bindS_err, bindS_stuck, Res.bind_ok, Res.bind_err, Res.bind_stuck, onBl_bl, andT, orT, notT, andV, orV, notV, tupM, lstM, toDs, toD, asD_d, asD_new, frzW_d, newT, newL, slM, slW, someO, noneO, ixW, addW, subW, mulW, modW, cmpW, negW, lenW, intW, tabW, isNonB, isNonW, isNon_d, List.map_cons, List.map_nil, List.length_cons, List.length_nil, List.replicate, List.append_nil, List.nil_append, List.cons_append, List.getElem?_cons_zero, List.getElem?_cons_succ, List.set_cons_zero, List.set_cons_succ, Nat.reduceAdd, Nat.reduceSub, if_true, if_false, ite_true, ite_false, Bool.not_true, Bool.not_false, Bool.and_true, Bool.and_false, Bool.false_eq_true, reduceIte, fin_same, finE_same, fin_new, atI_0, atI_1, atI_2, eqW_ofs, look_ofs, look_nil, dspC, newDc, inW, Option.isSome_some, Option.isSome_none, itM, forM, items_dl, items_dt, methL, methD, arg0, arg1, arg2, appendW, popW, listW, get_new, set_new, isLst_new, pow109, String.reduceBEq, String.reduceEq, Bool.false_or, Bool.true_or, Bool.or_false, Bool.or_true, hx, e, ba]
      | some io =>
        obtain ⟨i, o⟩ := io
        obtain ⟨ra, hla⟩ := sees_some hs qa
        have ba := p_block_some w kvs a _ st hw hla
        cases qb : f b with
        | none =>
          have bb := p_block_none w kvs b st hw (sees_none hs qb)
          simp only [szs, fnM, rawM, seqM, ifM, tvM, truM, binM, unM, appM, consA, nilA, varM, conM, retM, retN, asgM, expM, raiseM, passS, callF, app1, app2, noExc, isExc_d, isExc_c, bindS_ok, bindS_err, bindS_stuck, Res.bind_ok, Res.bind_err, Res.bind_stuck, onBl_bl, andT, orT, notT, andV, orV, notV, tupM, lstM, toDs, toD, asD_d, asD_new, frzW_d, newT, newL, slM, slW, someO, noneO, ixW, addW, subW, mulW, modW, cmpW, negW, lenW, intW, tabW, isNonB, isNonW, isNon_d, List.map_cons, List.map_nil, List.length_cons, List.length_nil, List.replicate, List.append_nil, List.nil_append, List.cons_append, List.getElem?_cons_zero, List.getElem?_cons_succ, List.set_cons_zero, List.set_cons_succ, Nat.reduceAdd, Nat.reduceSub, if_true, if_false, ite_true, ite_false, Bool.not_true, Bool.not_false, Bool.and_true, Bool.and_false, Bool.false_eq_true, reduceIte, fin_same, finE_same, fin_new, atI_0, atI_1, atI_2, eqW_ofs, look_ofs, look_nil, dspC, newDc, inW, Option.isSome_some, Option.isSome_none, itM, forM, items_dl, items_dt, methL, methD, arg0, arg1, arg2, appendW, popW, listW, get_new, set_new, isLst_new, pow109, String.reduceBEq, String.reduceEq, Bool.false_or, Bool.true_or, Bool.or_false, Bool.or_true, hx, e, ba, bb]
        | some io' =>
          obtain ⟨i', o'⟩ := io'
          obtain ⟨rb, hlb⟩ := sees_some hs qb
          have bb := p_block_some w kvs b _ st hw hlb
          have c := p_called_ok us i o ra st (by simp at hl; omega) (hf a i o qa).2
          have sz : (encK us).length ≤ sizeLine := small (by simp at hl ⊢; omega)
          by_cases h1 : i = i'
          · by_cases h2 : o = o'
            · subst h1 h2
              simp only [szs, fnM, rawM, seqM, ifM, tvM, truM, binM, unM, appM, consA, nilA, varM, conM, retM, retN, asgM, expM, raiseM, passS, callF, app1, app2, noExc, isExc_d, isExc_c, bindS_ok, bindS_err, bindS_stuck, Res.bind_ok, Res.bind_err, Res.bind_stuck, onBl_bl, andT, orT, notT, andV, orV, notV, tupM, lstM, toDs, toD, asD_d, asD_new, frzW_d, newT, newL, slM, slW, someO, noneO, ixW, addW, subW, mulW, modW, cmpW, negW, lenW, intW, tabW, isNonB, isNonW, isNon_d, List.map_cons, List.map_nil, List.length_cons, List.length_nil, List.replicate, List.append_nil, List.nil_append, List.cons_append, List.getElem?_cons_zero, List.getElem?_cons_succ, List.set_cons_zero, List.set_cons_succ, Nat.reduceAdd, Nat.reduceSub, if_true, if_false, ite_true, ite_false, Bool.not_true, Bool.not_false, Bool.and_true, Bool.and_false, Bool.false_eq_true, reduceIte, fin_same, finE_same, fin_new, atI_0, atI_1, atI_2, eqW_ofs, look_ofs, look_nil, dspC, newDc, inW, Option.isSome_some, Option.isSome_none, itM, forM, items_dl, items_dt, methL, methD, arg0, arg1, arg2, appendW, popW, listW, get_new, set_new, isLst_new, pow109, String.reduceBEq, String.reduceEq, Bool.false_or, Bool.true_or, Bool.or_false, Bool.or_true, hx, e, ba, bb, eqW_K, decide_true, cut1K, sz, Int.reduceNeg, c, and_self, List.dropLast_concat]
              cases calledK us i o <;> simp only [szs, fnM, rawM, seqM, ifM, tvM, truM, binM, unM, appM, consA, nilA, varM, conM, retM, retN, asgM, expM, raiseM, passS, callF, app1, app2, noExc, isExc_d, isExc_c, bindS_ok, bindS_err, bindS_stuck, Res.bind_ok, Res.bind_err, Res.bind_stuck, onBl_bl, andT, orT, notT, andV, orV, notV, tupM, lstM, toDs, toD, asD_d, asD_new, frzW_d, newT, newL, slM, slW, someO, noneO, ixW, addW, subW, mulW, modW, cmpW, negW, lenW, intW, tabW, isNonB, isNonW, isNon_d, List.map_cons, List.map_nil, List.length_cons, List.length_nil, List.replicate, List.append_nil, List.nil_append, List.cons_append, List.getElem?_cons_zero, List.getElem?_cons_succ, List.set_cons_zero, List.set_cons_succ, Nat.reduceAdd, Nat.reduceSub, if_true, if_false, ite_true, ite_false, Bool.not_true, Bool.not_false, Bool.and_true, Bool.and_false, Bool.false_eq_true, reduceIte, fin_same, finE_same, fin_new, atI_0, atI_1, atI_2, eqW_ofs, look_ofs, look_nil, dspC, newDc, inW, Option.isSome_some, Option.isSome_none, itM, forM, items_dl, items_dt, methL, methD, arg0, arg1, arg2, appendW, popW, listW, get_new, set_new, isLst_new, pow109, String.reduceBEq, String.reduceEq, Bool.false_or, Bool.true_or, Bool.or_false, Bool.or_true]
            · simp only [szs, fnM, rawM, seqM, ifM, tvM, truM, binM, unM, appM, consA, nilA, varM, conM, retM, retN, asgM, expM, raiseM, passS, callF, app1, app2, noExc, isExc_d, isExc_c, bindS_ok, bindS_err, bindS_stuck, Res.bind_ok, Res.bind_err, Res.bind_stuck, onBl_bl, andT, orT, notT, andV, orV, notV, tupM, lstM, toDs, toD, asD_d, asD_new, frzW_d, newT, newL, slM, slW, someO, noneO, ixW, addW, subW, mulW, modW, cmpW, negW, lenW, intW, tabW, isNonB, isNonW, isNon_d, List.map_cons, List.map_nil, List.length_cons, List.length_nil, List.replicate, List.append_nil, List.nil_append, List.cons_append, List.getElem?_cons_zero, List.getElem?_cons_succ, List.set_cons_zero, List.set_cons_succ, Nat.reduceAdd, Nat.reduceSub, if_true, if_false, ite_true, ite_false, Bool.not_true, Bool.not_false, Bool.and_true, Bool.and_false, Bool.false_eq_true, reduceIte, fin_same, finE_same, fin_new, atI_0, atI_1, atI_2, eqW_ofs, look_ofs, look_nil, dspC, newDc, inW, Option.isSome_some, Option.isSome_none, itM, forM, items_dl, items_dt, methL, methD, arg0, arg1, arg2, appendW, popW, listW, get_new, set_new, isLst_new, pow109, String.reduceBEq, String.reduceEq, Bool.false_or, Bool.true_or, Bool.or_false, Bool.or_true, hx, e, ba, bb, eqW_K, h1, h2, decide_true, decide_false, and_false]
          · simp only [szs, fnM, rawM, seqM, ifM, tvM, truM, binM, unM, appM, consA, nilA, varM, conM, retM, retN, asgM, expM, raiseM, passS, callF, app1, app2, noExc, isExc_d, isExc_c, bindS_ok, bindS_err, bindS_stuck, Res.bind_ok, Res.bind_err, Res.bind_stuck, onBl_bl, andT, orT, notT, andV, orV, notV, tupM, lstM, toDs, toD, asD_d, asD_new, frzW_d, newT, newL, slM, slW, someO, noneO, ixW, addW, subW, mulW, modW, cmpW, negW, lenW, intW, tabW, isNonB, isNonW, isNon_d, List.map_cons, List.map_nil, List.length_cons, List.length_nil, List.replicate, List.append_nil, List.nil_append, List.cons_append, List.getElem?_cons_zero, List.getElem?_cons_succ, List.set_cons_zero, List.set_cons_succ, Nat.reduceAdd, Nat.reduceSub, if_true, if_false, ite_true, ite_false, Bool.not_true, Bool.not_false, Bool.and_true, Bool.and_false, Bool.false_eq_true, reduceIte, fin_same, finE_same, fin_new, atI_0, atI_1, atI_2, eqW_ofs, look_ofs, look_nil, dspC, newDc, inW, Option.isSome_some, Option.isSome_none, itM, forM, items_dl, items_dt, methL, methD, arg0, arg1, arg2, appendW, popW, listW, get_new, set_new, isLst_new, pow109, String.reduceBEq, String.reduceEq, Bool.false_or, Bool.true_or, Bool.or_false, Bool.or_true, hx, e, ba, bb, eqW_K, h1, decide_false, false_and]
def excS : Exc → String | .empty => "empty" | .kind => "kind" | .block => "block" | .apart => "apart" | .dry => "dry"
def resD (ks : List Kd) : Except Exc (List Kd) → D
  | .error e => .tup [.str (Str.ofString (excS e)), .lst (encK ks)]
  | .ok ks' => .tup [.str "", .lst (encK ks')]
theorem s_lack_2_eq : s_lack_2 = s_lack := rfl
theorem s_plainly_2_eq : s_plainly_2 = s_plainly := rfl
theorem needS_exc {ks : List Kd} {ws : List (Option Kd)} {c : Exc} (q : need ks ws = some c) : needS (some c) = excS c := by
  rcases needS_eq ks ws with h | h | h
  · rw [h] at q; cases q
  · rw [h] at q; cases q; rfl
  · rw [h] at q; cases q; rfl
theorem excS_ne {ks : List Kd} {ws : List (Option Kd)} {c : Exc} (q : need ks ws = some c) : (excS c == "") = false := by
  cases c <;> rfl
theorem lcalled_ok (w : W) (kvs : List (Str × D)) (n : Str) (ks i o : List Kd) (r : List D) (st : Store) (hw : asD st w = some (.dct kvs)) (hlk : look n kvs = some (.tup (.tup (encK i) :: .tup (encK o) :: r))) (hl : ks.length ≤ 400000) (hi : i.length ≤ 60) (ho : o.length ≤ 60) :
    s_called [w, .d (.lst (encK ks)), .d (.str n)] st = .ok (.d (resD ks (calledK ks i o))) st := by
  have e := lack_ok ks (i.map some) st (by omega)
  rw [encL_some] at e
  have si : (encK i).length ≤ sizeLine := small (by rw [List.length_map]; omega)
  have so : (encK o).length ≤ sizeLine := small (by rw [List.length_map]; omega)
  unfold s_called b_called calledK
  rw [s_lack_2_eq]
  cases q : need ks (i.map some) with
  | some c =>
    rw [q, needS_exc q] at e
    simp only [szs, fnM, rawM, seqM, ifM, tvM, truM, binM, unM, appM, consA, nilA, varM, conM, retM, retN, asgM, expM, raiseM, passS, callF, app1, app2, noExc, isExc_d, isExc_c, bindS_ok, bindS_err, bindS_stuck, Res.bind_ok, Res.bind_err, Res.bind_stuck, onBl_bl, andT, orT, notT, andV, orV, notV, tupM, lstM, toDs, toD, asD_d, asD_new, frzW_d, newT, newL, slM, slW, someO, noneO, ixW, addW, subW, mulW, modW, cmpW, negW, lenW, intW, tabW, isNonB, isNonW, isNon_d, List.map_cons, List.map_nil, List.length_cons, List.length_nil, List.replicate, List.append_nil, List.nil_append, List.cons_append, List.getElem?_cons_zero, List.getElem?_cons_succ, List.set_cons_zero, List.set_cons_succ, Nat.reduceAdd, Nat.reduceSub, if_true, if_false, ite_true, ite_false, Bool.not_true, Bool.not_false, Bool.and_true, Bool.and_false, Bool.false_eq_true, reduceIte, fin_same, finE_same, fin_new, atI_0, atI_1, atI_2, eqW_ofs, look_ofs, look_nil, dspC, newDc, inW, Option.isSome_some, Option.isSome_none, itM, forM, items_dl, items_dt, methL, methD, arg0, arg1, arg2, appendW, popW, listW, get_new, set_new, isLst_new, pow109, String.reduceBEq, String.reduceEq, Bool.false_or, Bool.true_or, Bool.or_false, Bool.or_true, hw, hlk, si, e, excS_ne q, resD]
  | none =>
    rw [q] at e
    have hwl := (need_none q).1
    rw [List.length_map] at hwl
    have e5 : ((encK ks).length : Int) - ((encK i).length : Int) = ((ks.length - i.length : Nat) : Int) := by rw [List.length_map, List.length_map]; omega
    have s1 : (List.take (ks.length - i.length) (encK ks)).length ≤ sizeLine := small (by rw [List.length_take, List.length_map]; omega)
    have s2 : (List.take (ks.length - i.length) (encK ks) ++ encK o).length ≤ sizeLine := small (by rw [List.length_append, List.length_take, List.length_map, List.length_map]; omega)
    simp only [szs, fnM, rawM, seqM, ifM, tvM, truM, binM, unM, appM, consA, nilA, varM, conM, retM, retN, asgM, expM, raiseM, passS, callF, app1, app2, noExc, isExc_d, isExc_c, bindS_ok, bindS_err, bindS_stuck, Res.bind_ok, Res.bind_err, Res.bind_stuck, onBl_bl, andT, orT, notT, andV, orV, notV, tupM, lstM, toDs, toD, asD_d, asD_new, frzW_d, newT, newL, slM, slW, someO, noneO, ixW, addW, subW, mulW, modW, cmpW, negW, lenW, intW, tabW, isNonB, isNonW, isNon_d, List.map_cons, List.map_nil, List.length_cons, List.length_nil, List.replicate, List.append_nil, List.nil_append, List.cons_append, List.getElem?_cons_zero, List.getElem?_cons_succ, List.set_cons_zero, List.set_cons_succ, Nat.reduceAdd, Nat.reduceSub, if_true, if_false, ite_true, ite_false, Bool.not_true, Bool.not_false, Bool.and_true, Bool.and_false, Bool.false_eq_true, reduceIte, fin_same, finE_same, fin_new, atI_0, atI_1, atI_2, eqW_ofs, look_ofs, look_nil, dspC, newDc, inW, Option.isSome_some, Option.isSome_none, itM, forM, items_dl, items_dt, methL, methD, arg0, arg1, arg2, appendW, popW, listW, get_new, set_new, isLst_new, pow109, String.reduceBEq, String.reduceEq, Bool.false_or, Bool.true_or, Bool.or_false, Bool.or_true, hw, hlk, si, so, e, needS, e5, cut_to, s1, s2, resD]
    simp
theorem next_ok (w : W) (kvs : List (Str × D)) (f : Tl) (ks : List Kd) (r : Rw) (st : Store) (hw : asD st w = some (.dct kvs)) (hs : Sees kvs f) (hf : Small f) (hr : r.ok) (hl : ks.length ≤ 400000) :
    ∃ k2, s_next [w, .d (.lst (encK ks)), .d r.enc] st = .ok (.d (resD k2 (nextK f ks r))) st := by
  have hx : w.isExc = false := noExc_of hw
  unfold s_next b_next
  rw [s_lack_2_eq, s_plainly_2_eq]
  cases r with
  | plain r =>
    have e := lack_ok ks r.wants st (by omega)
    have hwn := lwanted_ok r hr st
    refine ⟨ks, ?_⟩
    simp only [Rw.enc, nextK]
    cases q : need ks r.wants with
    | some c =>
      rw [q, needS_exc q] at e
      have hne := excS_ne q
      cases r with
      | num v => simp only [Row.enc] at hwn ⊢; simp only [szs, fnM, rawM, seqM, ifM, tvM, truM, binM, unM, appM, consA, nilA, varM, conM, retM, retN, asgM, expM, raiseM, passS, callF, app1, app2, noExc, isExc_d, isExc_c, bindS_ok, bindS_err, bindS_stuck, Res.bind_ok, Res.bind_err, Res.bind_stuck, onBl_bl, andT, orT, notT, andV, orV, notV, tupM, lstM, toDs, toD, asD_d, asD_new, frzW_d, newT, newL, slM, slW, someO, noneO, ixW, addW, subW, mulW, modW, cmpW, negW, lenW, intW, tabW, isNonB, isNonW, isNon_d, List.map_cons, List.map_nil, List.length_cons, List.length_nil, List.replicate, List.append_nil, List.nil_append, List.cons_append, List.getElem?_cons_zero, List.getElem?_cons_succ, List.set_cons_zero, List.set_cons_succ, Nat.reduceAdd, Nat.reduceSub, if_true, if_false, ite_true, ite_false, Bool.not_true, Bool.not_false, Bool.and_true, Bool.and_false, Bool.false_eq_true, reduceIte, fin_same, finE_same, fin_new, atI_0, atI_1, atI_2, eqW_ofs, look_ofs, look_nil, dspC, newDc, inW, Option.isSome_some, Option.isSome_none, itM, forM, items_dl, items_dt, methL, methD, arg0, arg1, arg2, appendW, popW, listW, get_new, set_new, isLst_new, pow109, String.reduceBEq, String.reduceEq, Bool.false_or, Bool.true_or, Bool.or_false, Bool.or_true, hx, hwn, e, hne, resD]
      | text v => simp only [Row.enc] at hwn ⊢; simp only [szs, fnM, rawM, seqM, ifM, tvM, truM, binM, unM, appM, consA, nilA, varM, conM, retM, retN, asgM, expM, raiseM, passS, callF, app1, app2, noExc, isExc_d, isExc_c, bindS_ok, bindS_err, bindS_stuck, Res.bind_ok, Res.bind_err, Res.bind_stuck, onBl_bl, andT, orT, notT, andV, orV, notV, tupM, lstM, toDs, toD, asD_d, asD_new, frzW_d, newT, newL, slM, slW, someO, noneO, ixW, addW, subW, mulW, modW, cmpW, negW, lenW, intW, tabW, isNonB, isNonW, isNon_d, List.map_cons, List.map_nil, List.length_cons, List.length_nil, List.replicate, List.append_nil, List.nil_append, List.cons_append, List.getElem?_cons_zero, List.getElem?_cons_succ, List.set_cons_zero, List.set_cons_succ, Nat.reduceAdd, Nat.reduceSub, if_true, if_false, ite_true, ite_false, Bool.not_true, Bool.not_false, Bool.and_true, Bool.and_false, Bool.false_eq_true, reduceIte, fin_same, finE_same, fin_new, atI_0, atI_1, atI_2, eqW_ofs, look_ofs, look_nil, dspC, newDc, inW, Option.isSome_some, Option.isSome_none, itM, forM, items_dl, items_dt, methL, methD, arg0, arg1, arg2, appendW, popW, listW, get_new, set_new, isLst_new, pow109, String.reduceBEq, String.reduceEq, Bool.false_or, Bool.true_or, Bool.or_false, Bool.or_true, hx, hwn, e, hne, resD]
      | copy v => simp only [Row.enc] at hwn ⊢; simp only [szs, fnM, rawM, seqM, ifM, tvM, truM, binM, unM, appM, consA, nilA, varM, conM, retM, retN, asgM, expM, raiseM, passS, callF, app1, app2, noExc, isExc_d, isExc_c, bindS_ok, bindS_err, bindS_stuck, Res.bind_ok, Res.bind_err, Res.bind_stuck, onBl_bl, andT, orT, notT, andV, orV, notV, tupM, lstM, toDs, toD, asD_d, asD_new, frzW_d, newT, newL, slM, slW, someO, noneO, ixW, addW, subW, mulW, modW, cmpW, negW, lenW, intW, tabW, isNonB, isNonW, isNon_d, List.map_cons, List.map_nil, List.length_cons, List.length_nil, List.replicate, List.append_nil, List.nil_append, List.cons_append, List.getElem?_cons_zero, List.getElem?_cons_succ, List.set_cons_zero, List.set_cons_succ, Nat.reduceAdd, Nat.reduceSub, if_true, if_false, ite_true, ite_false, Bool.not_true, Bool.not_false, Bool.and_true, Bool.and_false, Bool.false_eq_true, reduceIte, fin_same, finE_same, fin_new, atI_0, atI_1, atI_2, eqW_ofs, look_ofs, look_nil, dspC, newDc, inW, Option.isSome_some, Option.isSome_none, itM, forM, items_dl, items_dt, methL, methD, arg0, arg1, arg2, appendW, popW, listW, get_new, set_new, isLst_new, pow109, String.reduceBEq, String.reduceEq, Bool.false_or, Bool.true_or, Bool.or_false, Bool.or_true, hx, hwn, e, hne, resD]
      | op o => cases o <;> (simp only [Row.enc, Op.s] at hwn ⊢; simp only [szs, fnM, rawM, seqM, ifM, tvM, truM, binM, unM, appM, consA, nilA, varM, conM, retM, retN, asgM, expM, raiseM, passS, callF, app1, app2, noExc, isExc_d, isExc_c, bindS_ok, bindS_err, bindS_stuck, Res.bind_ok, Res.bind_err, Res.bind_stuck, onBl_bl, andT, orT, notT, andV, orV, notV, tupM, lstM, toDs, toD, asD_d, asD_new, frzW_d, newT, newL, slM, slW, someO, noneO, ixW, addW, subW, mulW, modW, cmpW, negW, lenW, intW, tabW, isNonB, isNonW, isNon_d, List.map_cons, List.map_nil, List.length_cons, List.length_nil, List.replicate, List.append_nil, List.nil_append, List.cons_append, List.getElem?_cons_zero, List.getElem?_cons_succ, List.set_cons_zero, List.set_cons_succ, Nat.reduceAdd, Nat.reduceSub, if_true, if_false, ite_true, ite_false, Bool.not_true, Bool.not_false, Bool.and_true, Bool.and_false, Bool.false_eq_true, reduceIte, fin_same, finE_same, fin_new, atI_0, atI_1, atI_2, eqW_ofs, look_ofs, look_nil, dspC, newDc, inW, Option.isSome_some, Option.isSome_none, itM, forM, items_dl, items_dt, methL, methD, arg0, arg1, arg2, appendW, popW, listW, get_new, set_new, isLst_new, pow109, String.reduceBEq, String.reduceEq, Bool.false_or, Bool.true_or, Bool.or_false, Bool.or_true, hx, hwn, e, hne, resD])
    | none =>
      rw [q] at e
      have p := lplainly_ok ks r st hr hl q
      cases r with
      | num v => simp only [Row.enc] at hwn p ⊢; simp only [szs, fnM, rawM, seqM, ifM, tvM, truM, binM, unM, appM, consA, nilA, varM, conM, retM, retN, asgM, expM, raiseM, passS, callF, app1, app2, noExc, isExc_d, isExc_c, bindS_ok, bindS_err, bindS_stuck, Res.bind_ok, Res.bind_err, Res.bind_stuck, onBl_bl, andT, orT, notT, andV, orV, notV, tupM, lstM, toDs, toD, asD_d, asD_new, frzW_d, newT, newL, slM, slW, someO, noneO, ixW, addW, subW, mulW, modW, cmpW, negW, lenW, intW, tabW, isNonB, isNonW, isNon_d, List.map_cons, List.map_nil, List.length_cons, List.length_nil, List.replicate, List.append_nil, List.nil_append, List.cons_append, List.getElem?_cons_zero, List.getElem?_cons_succ, List.set_cons_zero, List.set_cons_succ, Nat.reduceAdd, Nat.reduceSub, if_true, if_false, ite_true, ite_false, Bool.not_true, Bool.not_false, Bool.and_true, Bool.and_false, Bool.false_eq_true, reduceIte, fin_same, finE_same, fin_new, atI_0, atI_1, atI_2, eqW_ofs, look_ofs, look_nil, dspC, newDc, inW, Option.isSome_some, Option.isSome_none, itM, forM, items_dl, items_dt, methL, methD, arg0, arg1, arg2, appendW, popW, listW, get_new, set_new, isLst_new, pow109, String.reduceBEq, String.reduceEq, Bool.false_or, Bool.true_or, Bool.or_false, Bool.or_true, hx, hwn, e, needS, p, resD]
      | text v => simp only [Row.enc] at hwn p ⊢; simp only [szs, fnM, rawM, seqM, ifM, tvM, truM, binM, unM, appM, consA, nilA, varM, conM, retM, retN, asgM, expM, raiseM, passS, callF, app1, app2, noExc, isExc_d, isExc_c, bindS_ok, bindS_err, bindS_stuck, Res.bind_ok, Res.bind_err, Res.bind_stuck, onBl_bl, andT, orT, notT, andV, orV, notV, tupM, lstM, toDs, toD, asD_d, asD_new, frzW_d, newT, newL, slM, slW, someO, noneO, ixW, addW, subW, mulW, modW, cmpW, negW, lenW, intW, tabW, isNonB, isNonW, isNon_d, List.map_cons, List.map_nil, List.length_cons, List.length_nil, List.replicate, List.append_nil, List.nil_append, List.cons_append, List.getElem?_cons_zero, List.getElem?_cons_succ, List.set_cons_zero, List.set_cons_succ, Nat.reduceAdd, Nat.reduceSub, if_true, if_false, ite_true, ite_false, Bool.not_true, Bool.not_false, Bool.and_true, Bool.and_false, Bool.false_eq_true, reduceIte, fin_same, finE_same, fin_new, atI_0, atI_1, atI_2, eqW_ofs, look_ofs, look_nil, dspC, newDc, inW, Option.isSome_some, Option.isSome_none, itM, forM, items_dl, items_dt, methL, methD, arg0, arg1, arg2, appendW, popW, listW, get_new, set_new, isLst_new, pow109, String.reduceBEq, String.reduceEq, Bool.false_or, Bool.true_or, Bool.or_false, Bool.or_true, hx, hwn, e, needS, p, resD]
      | copy v => simp only [Row.enc] at hwn p ⊢; simp only [szs, fnM, rawM, seqM, ifM, tvM, truM, binM, unM, appM, consA, nilA, varM, conM, retM, retN, asgM, expM, raiseM, passS, callF, app1, app2, noExc, isExc_d, isExc_c, bindS_ok, bindS_err, bindS_stuck, Res.bind_ok, Res.bind_err, Res.bind_stuck, onBl_bl, andT, orT, notT, andV, orV, notV, tupM, lstM, toDs, toD, asD_d, asD_new, frzW_d, newT, newL, slM, slW, someO, noneO, ixW, addW, subW, mulW, modW, cmpW, negW, lenW, intW, tabW, isNonB, isNonW, isNon_d, List.map_cons, List.map_nil, List.length_cons, List.length_nil, List.replicate, List.append_nil, List.nil_append, List.cons_append, List.getElem?_cons_zero, List.getElem?_cons_succ, List.set_cons_zero, List.set_cons_succ, Nat.reduceAdd, Nat.reduceSub, if_true, if_false, ite_true, ite_false, Bool.not_true, Bool.not_false, Bool.and_true, Bool.and_false, Bool.false_eq_true, reduceIte, fin_same, finE_same, fin_new, atI_0, atI_1, atI_2, eqW_ofs, look_ofs, look_nil, dspC, newDc, inW, Option.isSome_some, Option.isSome_none, itM, forM, items_dl, items_dt, methL, methD, arg0, arg1, arg2, appendW, popW, listW, get_new, set_new, isLst_new, pow109, String.reduceBEq, String.reduceEq, Bool.false_or, Bool.true_or, Bool.or_false, Bool.or_true, hx, hwn, e, needS, p, resD]
      | op o => cases o <;> (simp only [Row.enc, Op.s] at hwn p ⊢; simp only [szs, fnM, rawM, seqM, ifM, tvM, truM, binM, unM, appM, consA, nilA, varM, conM, retM, retN, asgM, expM, raiseM, passS, callF, app1, app2, noExc, isExc_d, isExc_c, bindS_ok, bindS_err, bindS_stuck, Res.bind_ok, Res.bind_err, Res.bind_stuck, onBl_bl, andT, orT, notT, andV, orV, notV, tupM, lstM, toDs, toD, asD_d, asD_new, frzW_d, newT, newL, slM, slW, someO, noneO, ixW, addW, subW, mulW, modW, cmpW, negW, lenW, intW, tabW, isNonB, isNonW, isNon_d, List.map_cons, List.map_nil, List.length_cons, List.length_nil, List.replicate, List.append_nil, List.nil_append, List.cons_append, List.getElem?_cons_zero, List.getElem?_cons_succ, List.set_cons_zero, List.set_cons_succ, Nat.reduceAdd, Nat.reduceSub, if_true, if_false, ite_true, ite_false, Bool.not_true, Bool.not_false, Bool.and_true, Bool.and_false, Bool.false_eq_true, reduceIte, fin_same, finE_same, fin_new, atI_0, atI_1, atI_2, eqW_ofs, look_ofs, look_nil, dspC, newDc, inW, Option.isSome_some, Option.isSome_none, itM, forM, items_dl, items_dt, methL, methD, arg0, arg1, arg2, appendW, popW, listW, get_new, set_new, isLst_new, pow109, String.reduceBEq, String.reduceEq, Bool.false_or, Bool.true_or, Bool.or_false, Bool.or_true, hx, hwn, e, needS, p, resD])
  | call n =>
    refine ⟨ks, ?_⟩
    simp only [Rw.enc, nextK]
    cases q : f n with
    | none =>
      have hlk := sees_none hs q
      simp only [szs, fnM, rawM, seqM, ifM, tvM, truM, binM, unM, appM, consA, nilA, varM, conM, retM, retN, asgM, expM, raiseM, passS, callF, app1, app2, noExc, isExc_d, isExc_c, bindS_ok, bindS_err, bindS_stuck, Res.bind_ok, Res.bind_err, Res.bind_stuck, onBl_bl, andT, orT, notT, andV, orV, notV, tupM, lstM, toDs, toD, asD_d, asD_new, frzW_d, newT, newL, slM, slW, someO, noneO, ixW, addW, subW, mulW, modW, cmpW, negW, lenW, intW, tabW, isNonB, isNonW, isNon_d, List.map_cons, List.map_nil, List.length_cons, List.length_nil, List.replicate, List.append_nil, List.nil_append, List.cons_append, List.getElem?_cons_zero, List.getElem?_cons_succ, List.set_cons_zero, List.set_cons_succ, Nat.reduceAdd, Nat.reduceSub, if_true, if_false, ite_true, ite_false, Bool.not_true, Bool.not_false, Bool.and_true, Bool.and_false, Bool.false_eq_true, reduceIte, fin_same, finE_same, fin_new, atI_0, atI_1, atI_2, eqW_ofs, look_ofs, look_nil, dspC, newDc, inW, Option.isSome_some, Option.isSome_none, itM, forM, items_dl, items_dt, methL, methD, arg0, arg1, arg2, appendW, popW, listW, get_new, set_new, isLst_new, pow109, String.reduceBEq, String.reduceEq, Bool.false_or, Bool.true_or, Bool.or_false, Bool.or_true, hx, hw, hlk, resD, excS]
    | some io =>
      obtain ⟨i, o⟩ := io
      obtain ⟨rr, hlk⟩ := sees_some hs q
      have c := lcalled_ok w kvs n ks i o rr st hw hlk (by omega) (hf n i o q).1 (hf n i o q).2
      simp only [szs, fnM, rawM, seqM, ifM, tvM, truM, binM, unM, appM, consA, nilA, varM, conM, retM, retN, asgM, expM, raiseM, passS, callF, app1, app2, noExc, isExc_d, isExc_c, bindS_ok, bindS_err, bindS_stuck, Res.bind_ok, Res.bind_err, Res.bind_stuck, onBl_bl, andT, orT, notT, andV, orV, notV, tupM, lstM, toDs, toD, asD_d, asD_new, frzW_d, newT, newL, slM, slW, someO, noneO, ixW, addW, subW, mulW, modW, cmpW, negW, lenW, intW, tabW, isNonB, isNonW, isNon_d, List.map_cons, List.map_nil, List.length_cons, List.length_nil, List.replicate, List.append_nil, List.nil_append, List.cons_append, List.getElem?_cons_zero, List.getElem?_cons_succ, List.set_cons_zero, List.set_cons_succ, Nat.reduceAdd, Nat.reduceSub, if_true, if_false, ite_true, ite_false, Bool.not_true, Bool.not_false, Bool.and_true, Bool.and_false, Bool.false_eq_true, reduceIte, fin_same, finE_same, fin_new, atI_0, atI_1, atI_2, eqW_ofs, look_ofs, look_nil, dspC, newDc, inW, Option.isSome_some, Option.isSome_none, itM, forM, items_dl, items_dt, methL, methD, arg0, arg1, arg2, appendW, popW, listW, get_new, set_new, isLst_new, pow109, String.reduceBEq, String.reduceEq, Bool.false_or, Bool.true_or, Bool.or_false, Bool.or_true, hx, hw, hlk, c]
  | iff a b =>
    simp only [Rw.enc, nextK]
    have e := lack_ok ks [some .num] st (by omega)
    have e0 : (.lst (encL [some Kd.num]) : D) = .lst [.str "num"] := rfl
    rw [e0] at e
    cases q : need ks [some .num] with
    | some c =>
      rw [q, needS_exc q] at e
      refine ⟨ks, ?_⟩
      simp only [szs, fnM, rawM, seqM, ifM, tvM, truM, binM, unM, appM, consA, nilA, varM, conM, retM, retN, asgM, expM, raiseM, passS, callF, app1, app2, noExc, isExc_d, isExc_c, bindS_ok, bindS_err, bindS_stuck, Res.bind_ok, Res.bind_err, Res.bind_stuck, onBl_bl, andT, orT, notT, andV, orV, notV, tupM, lstM, toDs, toD, asD_d, asD_new, frzW_d, newT, newL, slM, slW, someO, noneO, ixW, addW, subW, mulW, modW, cmpW, negW, lenW, intW, tabW, isNonB, isNonW, isNon_d, List.map_cons, List.map_nil, List.length_cons, List.length_nil, List.replicate, List.append_nil, List.nil_append, List.cons_append, List.getElem?_cons_zero, List.getElem?_cons_succ, List.set_cons_zero, List.set_cons_succ, Nat.reduceAdd, Nat.reduceSub, if_true, if_false, ite_true, ite_false, Bool.not_true, Bool.not_false, Bool.and_true, Bool.and_false, Bool.false_eq_true, reduceIte, fin_same, finE_same, fin_new, atI_0, atI_1, atI_2, eqW_ofs, look_ofs, look_nil, dspC, newDc, inW, Option.isSome_some, Option.isSome_none, itM, forM, items_dl, items_dt, methL, methD, arg0, arg1, arg2, appendW, popW, listW, get_new, set_new, isLst_new, pow109, String.reduceBEq, String.reduceEq, Bool.false_or, Bool.true_or, Bool.or_false, Bool.or_true, hx, e, excS_ne q, resD]
    | none =>
      rw [q] at e
      obtain ⟨us, k0, hks, _⟩ := ktop1 q
      subst hks
      cases qa : f a with
      | none =>
        have ha := sees_none hs qa
        refine ⟨us ++ [k0], ?_⟩
        simp only [szs, fnM, rawM, seqM, ifM, tvM, truM, binM, unM, appM, consA, nilA, varM, conM, retM, retN, asgM, expM, raiseM, passS, callF, app1, app2, noExc, isExc_d, isExc_c, bindS_ok, bindS_err, bindS_stuck, Res.bind_ok, Res.bind_err, Res.bind_stuck, onBl_bl, andT, orT, notT, andV, orV, notV, tupM, lstM, toDs, toD, asD_d, asD_new, frzW_d, newT, newL, slM, slW, someO, noneO, ixW, addW, subW, mulW, modW, cmpW, negW, lenW, intW, tabW, isNonB, isNonW, isNon_d, List.map_cons, List.map_nil, List.length_cons, List.length_nil, List.replicate, List.append_nil, List.nil_append, List.cons_append, List.getElem?_cons_zero, List.getElem?_cons_succ, List.set_cons_zero, List.set_cons_succ, Nat.reduceAdd, Nat.reduceSub, if_true, if_false, ite_true, ite_false, Bool.not_true, Bool.not_false, Bool.and_true, Bool.and_false, Bool.false_eq_true, reduceIte, fin_same, finE_same, fin_new, atI_0, atI_1, atI_2, eqW_ofs, look_ofs, look_nil, dspC, newDc, inW, Option.isSome_some, Option.isSome_none, itM, forM, items_dl, items_dt, methL, methD, arg0, arg1, arg2, appendW, popW, listW, get_new, set_new, isLst_new, pow109, String.reduceBEq, String.reduceEq, Bool.false_or, Bool.true_or, Bool.or_false, Bool.or_true, hx, e, needS, hw, ha, resD, excS]
      | some io =>
        obtain ⟨i, o⟩ := io
        obtain ⟨ra, hla⟩ := sees_some hs qa
        cases qb : f b with
        | none =>
          have hb := sees_none hs qb
          refine ⟨us ++ [k0], ?_⟩
          simp only [szs, fnM, rawM, seqM, ifM, tvM, truM, binM, unM, appM, consA, nilA, varM, conM, retM, retN, asgM, expM, raiseM, passS, callF, app1, app2, noExc, isExc_d, isExc_c, bindS_ok, bindS_err, bindS_stuck, Res.bind_ok, Res.bind_err, Res.bind_stuck, onBl_bl, andT, orT, notT, andV, orV, notV, tupM, lstM, toDs, toD, asD_d, asD_new, frzW_d, newT, newL, slM, slW, someO, noneO, ixW, addW, subW, mulW, modW, cmpW, negW, lenW, intW, tabW, isNonB, isNonW, isNon_d, List.map_cons, List.map_nil, List.length_cons, List.length_nil, List.replicate, List.append_nil, List.nil_append, List.cons_append, List.getElem?_cons_zero, List.getElem?_cons_succ, List.set_cons_zero, List.set_cons_succ, Nat.reduceAdd, Nat.reduceSub, if_true, if_false, ite_true, ite_false, Bool.not_true, Bool.not_false, Bool.and_true, Bool.and_false, Bool.false_eq_true, reduceIte, fin_same, finE_same, fin_new, atI_0, atI_1, atI_2, eqW_ofs, look_ofs, look_nil, dspC, newDc, inW, Option.isSome_some, Option.isSome_none, itM, forM, items_dl, items_dt, methL, methD, arg0, arg1, arg2, appendW, popW, listW, get_new, set_new, isLst_new, pow109, String.reduceBEq, String.reduceEq, Bool.false_or, Bool.true_or, Bool.or_false, Bool.or_true, hx, e, needS, hw, hla, hb, resD, excS]
        | some io' =>
          obtain ⟨i', o'⟩ := io'
          obtain ⟨rb, hlb⟩ := sees_some hs qb
          have c := lcalled_ok w kvs a us i o ra st hw hla (by simp at hl; omega) (hf a i o qa).1 (hf a i o qa).2
          have sz : (encK us).length ≤ sizeLine := small (by simp at hl ⊢; omega)
          by_cases h1 : i = i'
          · by_cases h2 : o = o'
            · subst h1 h2
              refine ⟨us, ?_⟩
              simp only [szs, fnM, rawM, seqM, ifM, tvM, truM, binM, unM, appM, consA, nilA, varM, conM, retM, retN, asgM, expM, raiseM, passS, callF, app1, app2, noExc, isExc_d, isExc_c, bindS_ok, bindS_err, bindS_stuck, Res.bind_ok, Res.bind_err, Res.bind_stuck, onBl_bl, andT, orT, notT, andV, orV, notV, tupM, lstM, toDs, toD, asD_d, asD_new, frzW_d, newT, newL, slM, slW, someO, noneO, ixW, addW, subW, mulW, modW, cmpW, negW, lenW, intW, tabW, isNonB, isNonW, isNon_d, List.map_cons, List.map_nil, List.length_cons, List.length_nil, List.replicate, List.append_nil, List.nil_append, List.cons_append, List.getElem?_cons_zero, List.getElem?_cons_succ, List.set_cons_zero, List.set_cons_succ, Nat.reduceAdd, Nat.reduceSub, if_true, if_false, ite_true, ite_false, Bool.not_true, Bool.not_false, Bool.and_true, Bool.and_false, Bool.false_eq_true, reduceIte, fin_same, finE_same, fin_new, atI_0, atI_1, atI_2, eqW_ofs, look_ofs, look_nil, dspC, newDc, inW, Option.isSome_some, Option.isSome_none, itM, forM, items_dl, items_dt, methL, methD, arg0, arg1, arg2, appendW, popW, listW, get_new, set_new, isLst_new, pow109, String.reduceBEq, String.reduceEq, Bool.false_or, Bool.true_or, Bool.or_false, Bool.or_true, hx, e, needS, hw, hla, hlb, eqW_K, decide_true, cut1K, sz, Int.reduceNeg, c, and_self, List.dropLast_concat]
            · refine ⟨us ++ [k0], ?_⟩
              simp only [szs, fnM, rawM, seqM, ifM, tvM, truM, binM, unM, appM, consA, nilA, varM, conM, retM, retN, asgM, expM, raiseM, passS, callF, app1, app2, noExc, isExc_d, isExc_c, bindS_ok, bindS_err, bindS_stuck, Res.bind_ok, Res.bind_err, Res.bind_stuck, onBl_bl, andT, orT, notT, andV, orV, notV, tupM, lstM, toDs, toD, asD_d, asD_new, frzW_d, newT, newL, slM, slW, someO, noneO, ixW, addW, subW, mulW, modW, cmpW, negW, lenW, intW, tabW, isNonB, isNonW, isNon_d, List.map_cons, List.map_nil, List.length_cons, List.length_nil, List.replicate, List.append_nil, List.nil_append, List.cons_append, List.getElem?_cons_zero, List.getElem?_cons_succ, List.set_cons_zero, List.set_cons_succ, Nat.reduceAdd, Nat.reduceSub, if_true, if_false, ite_true, ite_false, Bool.not_true, Bool.not_false, Bool.and_true, Bool.and_false, Bool.false_eq_true, reduceIte, fin_same, finE_same, fin_new, atI_0, atI_1, atI_2, eqW_ofs, look_ofs, look_nil, dspC, newDc, inW, Option.isSome_some, Option.isSome_none, itM, forM, items_dl, items_dt, methL, methD, arg0, arg1, arg2, appendW, popW, listW, get_new, set_new, isLst_new, pow109, String.reduceBEq, String.reduceEq, Bool.false_or, Bool.true_or, Bool.or_false, Bool.or_true, hx, e, needS, hw, hla, hlb, eqW_K, h1, h2, decide_true, decide_false, and_false, resD, excS]
          · refine ⟨us ++ [k0], ?_⟩
            simp only [szs, fnM, rawM, seqM, ifM, tvM, truM, binM, unM, appM, consA, nilA, varM, conM, retM, retN, asgM, expM, raiseM, passS, callF, app1, app2, noExc, isExc_d, isExc_c, bindS_ok, bindS_err, bindS_stuck, Res.bind_ok, Res.bind_err, Res.bind_stuck, onBl_bl, andT, orT, notT, andV, orV, notV, tupM, lstM, toDs, toD, asD_d, asD_new, frzW_d, newT, newL, slM, slW, someO, noneO, ixW, addW, subW, mulW, modW, cmpW, negW, lenW, intW, tabW, isNonB, isNonW, isNon_d, List.map_cons, List.map_nil, List.length_cons, List.length_nil, List.replicate, List.append_nil, List.nil_append, List.cons_append, List.getElem?_cons_zero, List.getElem?_cons_succ, List.set_cons_zero, List.set_cons_succ, Nat.reduceAdd, Nat.reduceSub, if_true, if_false, ite_true, ite_false, Bool.not_true, Bool.not_false, Bool.and_true, Bool.and_false, Bool.false_eq_true, reduceIte, fin_same, finE_same, fin_new, atI_0, atI_1, atI_2, eqW_ofs, look_ofs, look_nil, dspC, newDc, inW, Option.isSome_some, Option.isSome_none, itM, forM, items_dl, items_dt, methL, methD, arg0, arg1, arg2, appendW, popW, listW, get_new, set_new, isLst_new, pow109, String.reduceBEq, String.reduceEq, Bool.false_or, Bool.true_or, Bool.or_false, Bool.or_true, hx, e, needS, hw, hla, hlb, eqW_K, h1, decide_false, false_and, resD, excS]
end Py

namespace Py
open PySem L2
/-! ### dicts over any values -/
def putA {α : Type} (kvs : List (Str × α)) (k : Str) (v : α) : List (Str × α) :=
  if (kvs.any fun kv => decide (kv.1 = k)) = true then kvs.map (fun kv => if kv.1 = k then (kv.1, v) else kv) else kvs ++ [(k, v)]
def lookA {α : Type} (k : Str) : List (Str × α) → Option α
  | [] => none
  | (k', v) :: r => if k' = k then some v else lookA k r
theorem putD_map {α : Type} (f : α → D) (kvs : List (Str × α)) (k : Str) (v : α) : putD (kvs.map fun p => (p.1, f p.2)) k (f v) = (putA kvs k v).map fun p => (p.1, f p.2) := by
  unfold putD putA
  rw [List.any_map]
  show (if (kvs.any fun kv => decide (kv.1 = k)) = true then _ else _) = _
  by_cases h : (kvs.any fun kv => decide (kv.1 = k)) = true
  · rw [if_pos h, if_pos h, List.map_map, List.map_map]
    refine List.map_congr_left fun p _ => ?_
    show (if p.1 = k then (p.1, f v) else (p.1, f p.2)) = _
    by_cases q : p.1 = k
    · rw [if_pos q]; simp [q]
    · rw [if_neg q]; simp [q]
  · rw [if_neg h, if_neg h]; simp
theorem look_map {α : Type} (f : α → D) (k : Str) : ∀ (kvs : List (Str × α)), look k (kvs.map fun p => (p.1, f p.2)) = (lookA k kvs).map f
  | [] => rfl
  | (k', v) :: r => by
    show (if k' = k then some (f v) else look k (r.map fun p => (p.1, f p.2))) = Option.map f (if k' = k then some v else lookA k r)
    by_cases h : k' = k
    · rw [if_pos h, if_pos h]; rfl
    · rw [if_neg h, if_neg h]; exact look_map f k r
theorem putA_keys {α : Type} (kvs : List (Str × α)) (k : Str) (v : α) : (putA kvs k v).map (·.1) = if (kvs.any fun kv => decide (kv.1 = k)) = true then kvs.map (·.1) else kvs.map (·.1) ++ [k] := by
  unfold putA
  by_cases h : (kvs.any fun kv => decide (kv.1 = k)) = true
  · rw [if_pos h, if_pos h, List.map_map]
    refine List.map_congr_left fun p _ => ?_
    show (if p.1 = k then (p.1, v) else p).1 = p.1
    split <;> rfl
  · rw [if_neg h, if_neg h]; simp
theorem putA_nodup {α : Type} {kvs : List (Str × α)} {k : Str} {v : α} (h : (kvs.map (·.1)).Nodup) : ((putA kvs k v).map (·.1)).Nodup := by
  rw [putA_keys]
  split
  · exact h
  · rename_i q
    refine List.nodup_append.mpr ⟨h, by simp, ?_⟩
    intro a ha b hb e
    rw [List.mem_singleton] at hb
    subst hb e
    obtain ⟨p, hp, e⟩ := List.mem_map.mp ha
    exact q (List.any_eq_true.mpr ⟨p, hp, by simpa using e⟩)
theorem putA_mem {α : Type} {kvs : List (Str × α)} {k : Str} {v : α} {p : Str × α} (h : p ∈ putA kvs k v) : p ∈ kvs ∨ p = (k, v) := by
  unfold putA at h
  split at h
  · obtain ⟨q, hq, e⟩ := List.mem_map.mp h
    split at e
    · rename_i ek; subst e; right; rw [ek]
    · subst e; exact .inl hq
  · rcases List.mem_append.mp h with q | q
    · exact .inl q
    · exact .inr (List.mem_singleton.mp q)
theorem putA_len {α : Type} (kvs : List (Str × α)) (k : Str) (v : α) : (putA kvs k v).length ≤ kvs.length + 1 ∧ kvs.length ≤ (putA kvs k v).length ∧ 1 ≤ (putA kvs k v).length := by
  unfold putA
  split
  · rename_i h
    obtain ⟨p, hp, _⟩ := List.any_eq_true.mp h
    have := List.length_pos_of_mem hp
    rw [List.length_map]; omega
  · rw [List.length_append, List.length_singleton]; omega
theorem lookA_mem {α : Type} {k : Str} {v : α} : ∀ {kvs : List (Str × α)}, lookA k kvs = some v → (k, v) ∈ kvs
  | (k', u) :: r, h => by
    replace h : (if k' = k then some u else lookA k r) = some v := h
    split at h
    · rename_i e; cases h; subst e; exact List.mem_cons_self
    · exact List.mem_cons_of_mem _ (lookA_mem h)
theorem lookA_of {α : Type} {k : Str} {v : α} : ∀ {kvs : List (Str × α)}, (kvs.map (·.1)).Nodup → (k, v) ∈ kvs → lookA k kvs = some v
  | (k', u) :: r, hn, h => by
    show (if k' = k then some u else lookA k r) = some v
    simp only [List.map_cons, List.nodup_cons] at hn
    rcases List.mem_cons.mp h with e | h
    · cases e; rw [if_pos rfl]
    · rw [if_neg (fun e => hn.1 (by rw [e]; exact List.mem_map.mpr ⟨_, h, rfl⟩))]
      exact lookA_of hn.2 h
/-! ### what is told of the blocks -/
abbrev Td := List (Str × (List Kd × List Kd))
abbrev encT (r : List D) (P : Td) : List (Str × D) := P.map fun p => (p.1, .tup (.tup (encK p.2.1) :: .tup (encK p.2.2) :: r))
structure TdOk (P : Td) : Prop where
  nd : (P.map (·.1)).Nodup
  nm : ∀ p ∈ P, NmOk p.1
  sz : ∀ p ∈ P, p.2.1.length ≤ 60 ∧ p.2.2.length ≤ 60
theorem putT (r : List D) (P : Td) (n : Str) (i o : List Kd) : putD (encT r P) n (.tup (.tup (encK i) :: .tup (encK o) :: r)) = encT r (putA P n (i, o)) :=
  putD_map (fun p : List Kd × List Kd => .tup (.tup (encK p.1) :: .tup (encK p.2) :: r)) P n (i, o)
theorem lookT (r : List D) (P : Td) (n : Str) : look n (encT r P) = (lookA n P).map fun p => .tup (.tup (encK p.1) :: .tup (encK p.2) :: r) :=
  look_map (fun p : List Kd × List Kd => .tup (.tup (encK p.1) :: .tup (encK p.2) :: r)) n P
theorem sees_T (r : List D) (P : Td) : Sees (encT r P) (fun n => lookA n P) := fun n => by
  rw [lookT]
  show (match lookA n P with
    | none => _
    | some (i, o) => _)
  cases lookA n P with
  | none => rfl
  | some p => exact ⟨r, rfl⟩
theorem TdOk.small {P : Td} (h : TdOk P) : Small (fun n => lookA n P) := fun n i o e => h.sz _ (lookA_mem e)
theorem TdOk.put {P : Td} {n : Str} {i o : List Kd} (h : TdOk P) (hn : NmOk n) (hi : i.length ≤ 60) (ho : o.length ≤ 60) : TdOk (putA P n (i, o)) where
  nd := putA_nodup h.nd
  nm p hp := by
    rcases putA_mem hp with q | q
    · exact h.nm p q
    · subst q; exact hn
  sz p hp := by
    rcases putA_mem hp with q | q
    · exact h.sz p q
    · subst q; exact ⟨hi, ho⟩
/-! ### more loops -/
theorem lcLoop_inv {i : Nat} {e : M W} {env : Env} (I : List D → List D → Store → Prop) : ∀ (xs acc : List D) (st : Store), (∀ x ys acc st, I (x :: ys) acc st → ∃ d st2, e (env.set i (some (.d x))) st = .ok (.d d) st2 ∧ I ys (acc ++ [d]) st2) → acc.length + xs.length ≤ sizeLine → I xs acc st →
    ∃ out st', lcLoop i yesT e xs acc env st = .ok out st' ∧ I [] out st'
  | [], acc, st, _, _, hI => ⟨acc, st, rfl, hI⟩
  | x :: xs, acc, st, h, hl, hI => by
    obtain ⟨d, st2, h1, h2⟩ := h x xs acc st hI
    simp only [List.length_cons] at hl
    obtain ⟨out, st', e, r⟩ := lcLoop_inv I xs (acc ++ [d]) st2 h (by simp; omega) h2
    refine ⟨out, st', ?_, r⟩
    unfold lcLoop
    simp only [yesT, noErr_ok, Res.bind_ok, if_true, h1, toD, asD_d, frzW_d]
    rw [if_pos (by omega)]; exact e
noncomputable abbrev kindE : M W := binM ixW (lstM false (consA (conM (.str "num")) (consA (conM (.str "text")) nilA))) (callF s_draw (consA (varM 0) (consA (varM 1) (consA (conM (.int 2)) nilA))))
theorem kinds_lcd (ns : List Int) (k : Nat) (st : Store) (hk : k < st.length) (i : Nat) (env : Env) (he0 : ∀ x, (env.set i x)[0]? = some (some (.d (.scr ns)))) (he1 : ∀ x, (env.set i x)[1]? = some (some (.c k))) (n : Nat) (xs : List D) (hxs : xs.length = n) (t : Int) (hn : n ≤ 200) (h0 : 0 ≤ t) (h1 : t ≤ 900000) :
    ∃ ks : List Kd, ks.length = n ∧ lcLoop i yesT kindE xs [] env (st.set k (tc t)) = .ok (encK ks) (st.set k (tc (t + n))) := by
  obtain ⟨out, st', e, ks, q1, q2, q3⟩ := lcLoop_inv (i := i) (e := kindE) (env := env)
    (fun ys acc s => ∃ ks : List Kd, ks.length + ys.length = n ∧ acc = encK ks ∧ s = st.set k (tc (t + ks.length))) xs [] (st.set k (tc t))
    (fun x ys acc s ⟨ks, q1, q2, q3⟩ => by
      subst q2 q3
      simp only [List.length_cons] at q1
      obtain ⟨b, b0, b1, eb⟩ := draw2 ns k (t + ks.length) 2 st hk (by omega) (by omega) (by decide)
      obtain ⟨kd, ek⟩ := kdAt b b0 b1
      refine ⟨kd.enc, st.set k (tc (t + ks.length + 1)), ?_, ks ++ [kd], ?_, by simp, ?_⟩
      · simp only [szs, fnM, rawM, seqM, ifM, tvM, truM, binM, unM, appM, consA, nilA, varM, conM, retM, retN, asgM, expM, raiseM, passS, callF, app1, app2, noExc, isExc_d, isExc_c, bindS_ok, bindS_err, bindS_stuck, Res.bind_ok, Res.bind_err, Res.bind_stuck, onBl_bl, andT, orT, notT, andV, orV, notV, tupM, lstM, toDs, toD, asD_d, asD_new, frzW_d, newT, newL, slM, slW, someO, noneO, ixW, addW, subW, mulW, modW, cmpW, negW, lenW, intW, tabW, isNonB, isNonW, isNon_d, List.map_cons, List.map_nil, List.length_cons, List.length_nil, List.replicate, List.append_nil, List.nil_append, List.cons_append, List.getElem?_cons_zero, List.getElem?_cons_succ, List.set_cons_zero, List.set_cons_succ, Nat.reduceAdd, Nat.reduceSub, if_true, if_false, ite_true, ite_false, Bool.not_true, Bool.not_false, Bool.and_true, Bool.and_false, Bool.false_eq_true, reduceIte, fin_same, finE_same, fin_new, atI_0, atI_1, atI_2, eqW_ofs, look_ofs, look_nil, dspC, newDc, inW, Option.isSome_some, Option.isSome_none, itM, forM, items_dl, items_dt, methL, methD, arg0, arg1, arg2, appendW, popW, listW, get_new, set_new, isLst_new, pow109, String.reduceBEq, String.reduceEq, Bool.false_or, Bool.true_or, Bool.or_false, Bool.or_true, he0, he1, eb, ek]
      · rw [List.length_append, List.length_singleton]; omega
      · rw [List.length_append, List.length_singleton]; rw [show t + (ks.length : Int) + 1 = t + ((ks.length + 1 : Nat) : Int) from by omega])
    (by rw [hxs]; simp only [List.length_nil]; exact small (by omega)) ⟨[], by simpa using hxs, rfl, by simp⟩
  subst q2 q3
  simp only [List.length_nil, Nat.add_zero] at q1
  subst q1
  exact ⟨ks, rfl, e⟩
end Py

namespace Py
open PySem L2
theorem letters_len : (Str.ofString "abcdefghijkl").cps.toList.length = 12 := by decide +kernel
theorem letters_ok : ∀ c ∈ (Str.ofString "abcdefghijkl").cps.toList, c < 0x110000 := by decide +kernel
theorem letters_fit : (Str.ofString "abcdefghijkl").length ≤ sizeLine := by decide +kernel
theorem letter_ok (i : Nat) (hi : i < 12) : ∃ s : Str, PyData.strOk s = true ∧ s.length = 1 ∧ ∀ st, ixW (.d (.str (Str.ofString "abcdefghijkl"))) (.d (.int i)) st = .ok (.d (.str s)) st := by
  have hlt : i < (Str.ofString "abcdefghijkl").cps.toList.length := by rw [letters_len]; exact hi
  refine ⟨⟨#[(Str.ofString "abcdefghijkl").cps.toList[i]]⟩, ?_, rfl, fun st => ?_⟩
  · unfold PyData.strOk
    rw [← Array.all_toList]
    show (decide ((Str.ofString "abcdefghijkl").cps.toList[i] < 0x110000) && true) = true
    have := letters_ok _ (List.getElem_mem hlt)
    simp only [Bool.and_true, decide_eq_true_eq]
    exact this
  · unfold ixW
    simp only [asD_d]
    rw [if_pos letters_fit, atI_nat, List.getElem?_eq_getElem hlt]
/-- what the local dict holds, the tape -/
abbrev PS (st : Store) (k : Nat) (r : List D) (P : Td) (t : Int) : Store := (st ++ [Cell.dct (encT r P)]).set k (tc t)
/-- a function that draws kinds -/
def KindsOk (F : Fn) : Prop := ∀ (ns : List Int) (k : Nat) (t : Int) (st : Store), k < st.length → 0 ≤ t → t ≤ 800000 → ∃ (ks : List Kd) (t' : Int), ks.length ≤ 60 ∧ t ≤ t' ∧ t' ≤ t + 102 ∧ F [.d (.scr ns), .c k] (st.set k (tc t)) = .ok (.d (.tup (encK ks))) (st.set k (tc t'))
noncomputable abbrev progA : MS := (asgM 8 (binM (addW false) (binM (addW false) (varM 5) (callF s_words (consA (callF s_draw (consA (varM 0) (consA (varM 1) (consA (conM (.int 1000000)) nilA)))) (consA (callF s_draw (consA (varM 0) (consA (varM 1) (consA (conM (.int 4)) nilA)))) nilA)))) (binM ixW (conM (.str "abcdefghijkl")) (varM 7))))
noncomputable abbrev progB : MS := (ifM (tvM (binM (eqW false) (varM 6) (conM (.int 1))))
 (asgM 8 (binM (addW false) (binM (addW false) (varM 5) (binM ixW (conM (.str "abcdefghijkl")) (varM 7))) (varM 5)))
 passS)
noncomputable abbrev progC (F : Fn) (R : M (List W)) : MS := (ifM (orT (tvM (binM (eqW false) (varM 7) (conM (.int 0)))) (tvM (binM (eqW false) (varM 9) (conM (.int 0)))))
 (asgM 4 (tupM (consA (callF F (consA (varM 0) (consA (varM 1) nilA))) (consA (callF F (consA (varM 0) (consA (varM 1) nilA))) R))))
 passS)
noncomputable abbrev progD (F : Fn) (R : M (List W)) : MS := (ifM (orT (tvM (binM (eqW false) (varM 9) (conM (.int 1)))) (tvM (binM (eqW false) (varM 9) (conM (.int 2)))))
 (asgM 4 (tupM (consA (binM ixW (varM 4) (conM (.int 0))) (consA (callF F (consA (varM 0) (consA (varM 1) nilA))) R))))
 passS)
noncomputable abbrev progBody (F : Fn) (R : M (List W)) (V : M W) : MS := seqM progA (seqM progB (seqM (asgM 9 (callF s_draw (consA (varM 0) (consA (varM 1) (consA (conM (.int 5)) nilA))))) (seqM (progC F R) (seqM (progD F R) (setDM (varM 3) (varM 8) V)))))
structure ProgPar (F : Fn) (R : M (List W)) (V : M W) (r : List D) : Prop where
  kinds : KindsOk F
  rest : ∃ ws, (∀ env st, R env st = .ok ws st) ∧ ∀ st, toDs ws st = .ok r st
  len : r.length ≤ 2
  val : ∀ (env : Env) (st : Store) (i o : List Kd), env[4]? = some (some (.d (.tup (.tup (encK i) :: .tup (encK o) :: r)))) → V env st = .ok (.d (.tup (.tup (encK i) :: .tup (encK o) :: r))) st
section
variable {st : Store} {k : Nat} (hk : k < st.length) (ns : List Int) {F : Fn} {R : M (List W)} {V : M W} {r : List D} (par : ProgPar F R V r)
include hk
theorem pw (c : Cell) (t : Int) (n m : Int) (hn : 0 ≤ m) (hm : m ≤ 1000) : ∃ s, PyData.strOk s = true ∧ s.length = m.toNat ∧ s_words [.d (.int n), .d (.int m)] ((st ++ [c]).set k (tc t)) = .ok (.d (.str s)) ((st ++ [c]).set k (tc t)) := by
  obtain ⟨s, h1, h2, h3⟩ := words_ok n m.toNat ((st ++ [c]).set k (tc t)) (by omega)
  rw [Int.toNat_of_nonneg hn] at h3
  exact ⟨s, h1, h2, h3⟩
include par
theorem prog_name (i : Nat) (hi : i < 12) (P : Td) (x2 x3 x4 : Option W) (bg : Str) (hb : PyData.strOk bg = true ∧ bg.length ≤ 50) (md : Int) (x8 x9 : Option W) (t : Int) (h0 : 0 ≤ t) (h1 : t ≤ 800000) :
    ∃ nm : Str, NmOk nm ∧ ∀ rest, seqM progA (seqM progB rest) [some (.d (.scr ns)), some (.c k), x2, x3, x4, some (.d (.str bg)), some (.d (.int md)), some (.d (.int i)), x8, x9] (PS st k r P t)
      = rest [some (.d (.scr ns)), some (.c k), x2, x3, x4, some (.d (.str bg)), some (.d (.int md)), some (.d (.int i)), some (.d (.str nm)), x9] (PS st k r P (t + 1 + 1)) := by
  obtain ⟨a, a0, a1, ea⟩ := pd hk ns (Cell.dct (encT r P)) t 1000000 h0 (by omega) (by decide)
  obtain ⟨b, b0, b1, eb⟩ := pd hk ns (Cell.dct (encT r P)) (t + 1) 4 (by omega) (by omega) (by decide)
  obtain ⟨s, s1, s2, es⟩ := pw hk (Cell.dct (encT r P)) (t + 1 + 1) a b b0 (by omega)
  obtain ⟨c, c1, c2, ec⟩ := letter_ok i hi
  have l1 : bg.length + s.length ≤ sizeLine := small (by omega)
  have l2 : (bg ++ s).length + c.length ≤ sizeLine := small (by rw [Str.length_append]; omega)
  have l3 : bg.length + c.length ≤ sizeLine := small (by omega)
  have l4 : (bg ++ c).length + bg.length ≤ sizeLine := small (by rw [Str.length_append]; omega)
  have eA : progA [some (.d (.scr ns)), some (.c k), x2, x3, x4, some (.d (.str bg)), some (.d (.int md)), some (.d (.int i)), x8, x9] (PS st k r P t)
      = .nx [some (.d (.scr ns)), some (.c k), x2, x3, x4, some (.d (.str bg)), some (.d (.int md)), some (.d (.int i)), some (.d (.str (bg ++ s ++ c))), x9] (PS st k r P (t + 1 + 1)) := by
    have ec' : ∀ st, ixW (.d (.str (Str.ofString "abcdefghijkl"))) (.d (.int i)) st = .ok (.d (.str c)) st := ec
    simp only [asgM, binM, varM, conM, callF, consA, nilA, List.getElem?_cons_zero, List.getElem?_cons_succ, Res.bind_ok, noExc, isExc_d, isExc_c, Bool.not_false, Bool.and_true, if_true, ea, eb, es, ec', addW, asD_d, l1, l2, bindS_ok, List.set_cons_succ, List.set_cons_zero]
  by_cases hm : md = 1
  · subst hm
    refine ⟨bg ++ c ++ bg, ⟨strOk_append (strOk_append hb.1 c1) hb.1, by rw [Str.length_append, Str.length_append]; omega, by rw [Str.length_append, Str.length_append]; omega⟩, fun rest => ?_⟩
    rw [seq_nx eA]
    refine seq_nx ?_
    have ec' : ∀ st, ixW (.d (.str (Str.ofString "abcdefghijkl"))) (.d (.int i)) st = .ok (.d (.str c)) st := ec
    simp only [ifM, tvM, eqW_int, beq_self_eq_true, onBl_bl, Bool.false_eq_true, reduceIte, asgM, binM, varM, conM, List.getElem?_cons_zero, List.getElem?_cons_succ, Res.bind_ok, ec', addW, asD_d, l3, l4, bindS_ok, if_true, List.set_cons_succ, List.set_cons_zero]
  · have hm' : (md == 1) = false := by simpa using hm
    refine ⟨bg ++ s ++ c, ⟨strOk_append (strOk_append hb.1 s1) c1, by rw [Str.length_append, Str.length_append]; omega, by rw [Str.length_append, Str.length_append]; omega⟩, fun rest => ?_⟩
    rw [seq_nx eA]
    refine seq_nx ?_
    simp only [szs, fnM, rawM, seqM, ifM, tvM, truM, binM, unM, appM, consA, nilA, varM, conM, retM, retN, asgM, expM, raiseM, passS, callF, app1, app2, noExc, isExc_d, isExc_c, bindS_ok, bindS_err, bindS_stuck, Res.bind_ok, Res.bind_err, Res.bind_stuck, onBl_bl, andT, orT, notT, andV, orV, notV, tupM, lstM, toDs, toD, asD_d, asD_new, frzW_d, newT, newL, slM, slW, someO, noneO, ixW, addW, subW, mulW, modW, cmpW, negW, lenW, intW, tabW, isNonB, isNonW, isNon_d, List.map_cons, List.map_nil, List.length_cons, List.length_nil, List.replicate, List.append_nil, List.nil_append, List.cons_append, List.getElem?_cons_zero, List.getElem?_cons_succ, List.set_cons_zero, List.set_cons_succ, Nat.reduceAdd, Nat.reduceSub, if_true, if_false, ite_true, ite_false, Bool.not_true, Bool.not_false, Bool.and_true, Bool.and_false, Bool.false_eq_true, reduceIte, fin_same, finE_same, fin_new, atI_0, atI_1, atI_2, eqW_ofs, look_ofs, look_nil, dspC, newDc, inW, Option.isSome_some, Option.isSome_none, itM, forM, items_dl, items_dt, methL, methD, arg0, arg1, arg2, appendW, popW, listW, get_new, set_new, isLst_new, pow109, String.reduceBEq, String.reduceEq, Bool.false_or, Bool.true_or, Bool.or_false, Bool.or_true, eqW_int, hm']
theorem prog_kept (i : Nat) (P : Td) (x2 x3 x5 x6 x8 : Option W) (io : List Kd × List Kd) (hio : io.1.length ≤ 60 ∧ io.2.length ≤ 60) (way : Int) (t : Int) (h0 : 0 ≤ t) (h1 : t ≤ 700000) :
    ∃ (io' : List Kd × List Kd) (t' : Int), io'.1.length ≤ 60 ∧ io'.2.length ≤ 60 ∧ t ≤ t' ∧ t' ≤ t + 310 ∧ ∀ rest, seqM (progC F R) (seqM (progD F R) rest) [some (.d (.scr ns)), some (.c k), x2, x3, some (.d (.tup (.tup (encK io.1) :: .tup (encK io.2) :: r))), x5, x6, some (.d (.int i)), x8, some (.d (.int way))] (PS st k r P t)
      = rest [some (.d (.scr ns)), some (.c k), x2, x3, some (.d (.tup (.tup (encK io'.1) :: .tup (encK io'.2) :: r))), x5, x6, some (.d (.int i)), x8, some (.d (.int way))] (PS st k r P t') := by
  obtain ⟨ws, hR, hT⟩ := par.rest
  have hlen := par.len
  have hsz : r.length + 1 + 1 ≤ sizeLine := small (by omega)
  have hp : k < (st ++ [Cell.dct (encT r P)]).length := by rw [List.length_append]; omega
  -- first choice
  obtain ⟨io1, t1, p1, p2, p3, p4, e1⟩ : ∃ (io' : List Kd × List Kd) (t' : Int), io'.1.length ≤ 60 ∧ io'.2.length ≤ 60 ∧ t ≤ t' ∧ t' ≤ t + 204 ∧ progC F R [some (.d (.scr ns)), some (.c k), x2, x3, some (.d (.tup (.tup (encK io.1) :: .tup (encK io.2) :: r))), x5, x6, some (.d (.int i)), x8, some (.d (.int way))] (PS st k r P t)
      = .nx [some (.d (.scr ns)), some (.c k), x2, x3, some (.d (.tup (.tup (encK io'.1) :: .tup (encK io'.2) :: r))), x5, x6, some (.d (.int i)), x8, some (.d (.int way))] (PS st k r P t') := by
    obtain ⟨ks1, ta, q1, q2, q3, q4⟩ := par.kinds ns k t _ hp h0 (by omega)
    obtain ⟨ks2, tb, q5, q6, q7, q8⟩ := par.kinds ns k ta _ hp (by omega) (by omega)
    by_cases hi : (i : Int) = 0
    · refine ⟨(ks1, ks2), tb, q1, q5, by omega, by omega, ?_⟩
      have hi' : ((i : Int) == 0) = true := by rw [hi]; rfl
      simp only [szs, fnM, rawM, seqM, ifM, tvM, truM, binM, unM, appM, consA, nilA, varM, conM, retM, retN, asgM, expM, raiseM, passS, callF, app1, app2, noExc, isExc_d, isExc_c, bindS_ok, bindS_err, bindS_stuck, Res.bind_ok, Res.bind_err, Res.bind_stuck, onBl_bl, andT, orT, notT, andV, orV, notV, tupM, lstM, toDs, toD, asD_d, asD_new, frzW_d, newT, newL, slM, slW, someO, noneO, ixW, addW, subW, mulW, modW, cmpW, negW, lenW, intW, tabW, isNonB, isNonW, isNon_d, List.map_cons, List.map_nil, List.length_cons, List.length_nil, List.replicate, List.append_nil, List.nil_append, List.cons_append, List.getElem?_cons_zero, List.getElem?_cons_succ, List.set_cons_zero, List.set_cons_succ, Nat.reduceAdd, Nat.reduceSub, if_true, if_false, ite_true, ite_false, Bool.not_true, Bool.not_false, Bool.and_true, Bool.and_false, Bool.false_eq_true, reduceIte, fin_same, finE_same, fin_new, atI_0, atI_1, atI_2, eqW_ofs, look_ofs, look_nil, dspC, newDc, inW, Option.isSome_some, Option.isSome_none, itM, forM, items_dl, items_dt, methL, methD, arg0, arg1, arg2, appendW, popW, listW, get_new, set_new, isLst_new, pow109, String.reduceBEq, String.reduceEq, Bool.false_or, Bool.true_or, Bool.or_false, Bool.or_true, eqW_int, hi', q4, q8, hR, hT, hsz]
    · have hi' : ((i : Int) == 0) = false := by simpa using hi
      by_cases hw : way = 0
      · refine ⟨(ks1, ks2), tb, q1, q5, by omega, by omega, ?_⟩
        have hw' : (way == 0) = true := by rw [hw]; rfl
        simp only [szs, fnM, rawM, seqM, ifM, tvM, truM, binM, unM, appM, consA, nilA, varM, conM, retM, retN, asgM, expM, raiseM, passS, callF, app1, app2, noExc, isExc_d, isExc_c, bindS_ok, bindS_err, bindS_stuck, Res.bind_ok, Res.bind_err, Res.bind_stuck, onBl_bl, andT, orT, notT, andV, orV, notV, tupM, lstM, toDs, toD, asD_d, asD_new, frzW_d, newT, newL, slM, slW, someO, noneO, ixW, addW, subW, mulW, modW, cmpW, negW, lenW, intW, tabW, isNonB, isNonW, isNon_d, List.map_cons, List.map_nil, List.length_cons, List.length_nil, List.replicate, List.append_nil, List.nil_append, List.cons_append, List.getElem?_cons_zero, List.getElem?_cons_succ, List.set_cons_zero, List.set_cons_succ, Nat.reduceAdd, Nat.reduceSub, if_true, if_false, ite_true, ite_false, Bool.not_true, Bool.not_false, Bool.and_true, Bool.and_false, Bool.false_eq_true, reduceIte, fin_same, finE_same, fin_new, atI_0, atI_1, atI_2, eqW_ofs, look_ofs, look_nil, dspC, newDc, inW, Option.isSome_some, Option.isSome_none, itM, forM, items_dl, items_dt, methL, methD, arg0, arg1, arg2, appendW, popW, listW, get_new, set_new, isLst_new, pow109, String.reduceBEq, String.reduceEq, Bool.false_or, Bool.true_or, Bool.or_false, Bool.or_true, eqW_int, hi', hw', q4, q8, hR, hT, hsz]
      · have hw' : (way == 0) = false := by simpa using hw
        refine ⟨io, t, hio.1, hio.2, by omega, by omega, ?_⟩
        simp only [szs, fnM, rawM, seqM, ifM, tvM, truM, binM, unM, appM, consA, nilA, varM, conM, retM, retN, asgM, expM, raiseM, passS, callF, app1, app2, noExc, isExc_d, isExc_c, bindS_ok, bindS_err, bindS_stuck, Res.bind_ok, Res.bind_err, Res.bind_stuck, onBl_bl, andT, orT, notT, andV, orV, notV, tupM, lstM, toDs, toD, asD_d, asD_new, frzW_d, newT, newL, slM, slW, someO, noneO, ixW, addW, subW, mulW, modW, cmpW, negW, lenW, intW, tabW, isNonB, isNonW, isNon_d, List.map_cons, List.map_nil, List.length_cons, List.length_nil, List.replicate, List.append_nil, List.nil_append, List.cons_append, List.getElem?_cons_zero, List.getElem?_cons_succ, List.set_cons_zero, List.set_cons_succ, Nat.reduceAdd, Nat.reduceSub, if_true, if_false, ite_true, ite_false, Bool.not_true, Bool.not_false, Bool.and_true, Bool.and_false, Bool.false_eq_true, reduceIte, fin_same, finE_same, fin_new, atI_0, atI_1, atI_2, eqW_ofs, look_ofs, look_nil, dspC, newDc, inW, Option.isSome_some, Option.isSome_none, itM, forM, items_dl, items_dt, methL, methD, arg0, arg1, arg2, appendW, popW, listW, get_new, set_new, isLst_new, pow109, String.reduceBEq, String.reduceEq, Bool.false_or, Bool.true_or, Bool.or_false, Bool.or_true, eqW_int, hi', hw']
  obtain ⟨ks1, ta, q1, q2, q3, q4⟩ := par.kinds ns k t1 _ hp (by omega) (by omega)
  have yes : ∀ b : Bool, ((way == 1) = true ∨ ((way == 1) = false ∧ (way == 2) = true)) → progD F R [some (.d (.scr ns)), some (.c k), x2, x3, some (.d (.tup (.tup (encK io1.1) :: .tup (encK io1.2) :: r))), x5, x6, some (.d (.int i)), x8, some (.d (.int way))] (PS st k r P t1)
      = .nx [some (.d (.scr ns)), some (.c k), x2, x3, some (.d (.tup (.tup (encK io1.1) :: .tup (encK ks1) :: r))), x5, x6, some (.d (.int i)), x8, some (.d (.int way))] (PS st k r P ta) := fun _ h => by
    rcases h with h | ⟨h, h'⟩
    · simp only [szs, fnM, rawM, seqM, ifM, tvM, truM, binM, unM, appM, consA, nilA, varM, conM, retM, retN, asgM, expM, raiseM, passS, callF, app1, app2, noExc, isExc_d, isExc_c, bindS_ok, bindS_err, bindS_stuck, Res.bind_ok, Res.bind_err, Res.bind_stuck, onBl_bl, andT, orT, notT, andV, orV, notV, tupM, lstM, toDs, toD, asD_d, asD_new, frzW_d, newT, newL, slM, slW, someO, noneO, ixW, addW, subW, mulW, modW, cmpW, negW, lenW, intW, tabW, isNonB, isNonW, isNon_d, List.map_cons, List.map_nil, List.length_cons, List.length_nil, List.replicate, List.append_nil, List.nil_append, List.cons_append, List.getElem?_cons_zero, List.getElem?_cons_succ, List.set_cons_zero, List.set_cons_succ, Nat.reduceAdd, Nat.reduceSub, if_true, if_false, ite_true, ite_false, Bool.not_true, Bool.not_false, Bool.and_true, Bool.and_false, Bool.false_eq_true, reduceIte, fin_same, finE_same, fin_new, atI_0, atI_1, atI_2, eqW_ofs, look_ofs, look_nil, dspC, newDc, inW, Option.isSome_some, Option.isSome_none, itM, forM, items_dl, items_dt, methL, methD, arg0, arg1, arg2, appendW, popW, listW, get_new, set_new, isLst_new, pow109, String.reduceBEq, String.reduceEq, Bool.false_or, Bool.true_or, Bool.or_false, Bool.or_true, eqW_int, h, q4, hR, hT, hsz]
    · simp only [szs, fnM, rawM, seqM, ifM, tvM, truM, binM, unM, appM, consA, nilA, varM, conM, retM, retN, asgM, expM, raiseM, passS, callF, app1, app2, noExc, isExc_d, isExc_c, bindS_ok, bindS_err, bindS_stuck, Res.bind_ok, Res.bind_err, Res.bind_stuck, onBl_bl, andT, orT, notT, andV, orV, notV, tupM, lstM, toDs, toD, asD_d, asD_new, frzW_d, newT, newL, slM, slW, someO, noneO, ixW, addW, subW, mulW, modW, cmpW, negW, lenW, intW, tabW, isNonB, isNonW, isNon_d, List.map_cons, List.map_nil, List.length_cons, List.length_nil, List.replicate, List.append_nil, List.nil_append, List.cons_append, List.getElem?_cons_zero, List.getElem?_cons_succ, List.set_cons_zero, List.set_cons_succ, Nat.reduceAdd, Nat.reduceSub, if_true, if_false, ite_true, ite_false, Bool.not_true, Bool.not_false, Bool.and_true, Bool.and_false, Bool.false_eq_true, reduceIte, fin_same, finE_same, fin_new, atI_0, atI_1, atI_2, eqW_ofs, look_ofs, look_nil, dspC, newDc, inW, Option.isSome_some, Option.isSome_none, itM, forM, items_dl, items_dt, methL, methD, arg0, arg1, arg2, appendW, popW, listW, get_new, set_new, isLst_new, pow109, String.reduceBEq, String.reduceEq, Bool.false_or, Bool.true_or, Bool.or_false, Bool.or_true, eqW_int, h, h', q4, hR, hT, hsz]
  by_cases hw : (way == 1) = true
  · exact ⟨(io1.1, ks1), ta, p1, q1, by omega, by omega, fun rest => by rw [seq_nx e1, seq_nx (yes true (.inl hw))]⟩
  · have hw : (way == 1) = false := by simpa using hw
    by_cases hw2 : (way == 2) = true
    · exact ⟨(io1.1, ks1), ta, p1, q1, by omega, by omega, fun rest => by rw [seq_nx e1, seq_nx (yes true (.inr ⟨hw, hw2⟩))]⟩
    · have hw2 : (way == 2) = false := by simpa using hw2
      refine ⟨io1, t1, p1, p2, by omega, by omega, fun rest => ?_⟩
      rw [seq_nx e1]
      refine seq_nx ?_
      simp only [szs, fnM, rawM, seqM, ifM, tvM, truM, binM, unM, appM, consA, nilA, varM, conM, retM, retN, asgM, expM, raiseM, passS, callF, app1, app2, noExc, isExc_d, isExc_c, bindS_ok, bindS_err, bindS_stuck, Res.bind_ok, Res.bind_err, Res.bind_stuck, onBl_bl, andT, orT, notT, andV, orV, notV, tupM, lstM, toDs, toD, asD_d, asD_new, frzW_d, newT, newL, slM, slW, someO, noneO, ixW, addW, subW, mulW, modW, cmpW, negW, lenW, intW, tabW, isNonB, isNonW, isNon_d, List.map_cons, List.map_nil, List.length_cons, List.length_nil, List.replicate, List.append_nil, List.nil_append, List.cons_append, List.getElem?_cons_zero, List.getElem?_cons_succ, List.set_cons_zero, List.set_cons_succ, Nat.reduceAdd, Nat.reduceSub, if_true, if_false, ite_true, ite_false, Bool.not_true, Bool.not_false, Bool.and_true, Bool.and_false, Bool.false_eq_true, reduceIte, fin_same, finE_same, fin_new, atI_0, atI_1, atI_2, eqW_ofs, look_ofs, look_nil, dspC, newDc, inW, Option.isSome_some, Option.isSome_none, itM, forM, items_dl, items_dt, methL, methD, arg0, arg1, arg2, appendW, popW, listW, get_new, set_new, isLst_new, pow109, String.reduceBEq, String.reduceEq, Bool.false_or, Bool.true_or, Bool.or_false, Bool.or_true, eqW_int, hw, hw2]
theorem prog_step (i : Nat) (hi : i < 12) (P : Td) (hP : TdOk P) (hPl : P.length ≤ 100) (x2 : Option W) (io : List Kd × List Kd) (hio : io.1.length ≤ 60 ∧ io.2.length ≤ 60) (bg : Str) (hb : PyData.strOk bg = true ∧ bg.length ≤ 50) (md : Int) (x8 x9 : Option W) (t : Int) (h0 : 0 ≤ t) (h1 : t ≤ 600000) :
    ∃ (P' : Td) (io' : List Kd × List Kd) (t' : Int) (y8 y9 : Option W), TdOk P' ∧ P'.length ≤ P.length + 1 ∧ 1 ≤ P'.length ∧ io'.1.length ≤ 60 ∧ io'.2.length ≤ 60 ∧ t ≤ t' ∧ t' ≤ t + 320 ∧
      progBody F R V [some (.d (.scr ns)), some (.c k), x2, some (.c st.length), some (.d (.tup (.tup (encK io.1) :: .tup (encK io.2) :: r))), some (.d (.str bg)), some (.d (.int md)), some (.d (.int i)), x8, x9] (PS st k r P t)
      = .nx [some (.d (.scr ns)), some (.c k), x2, some (.c st.length), some (.d (.tup (.tup (encK io'.1) :: .tup (encK io'.2) :: r))), some (.d (.str bg)), some (.d (.int md)), some (.d (.int i)), y8, y9] (PS st k r P' t') := by
  obtain ⟨nm, hnm, e1⟩ := prog_name hk ns par i hi P x2 (some (.c st.length)) (some (.d (.tup (.tup (encK io.1) :: .tup (encK io.2) :: r)))) bg hb md x8 x9 t h0 (by omega)
  obtain ⟨way, w0, w1, ew⟩ := pd hk ns (Cell.dct (encT r P)) (t + 1 + 1) 5 (by omega) (by omega) (by decide)
  obtain ⟨io', t2, q1, q2, q3, q4, e2⟩ := prog_kept hk ns par i P x2 (some (.c st.length)) (some (.d (.str bg))) (some (.d (.int md))) (some (.d (.str nm))) io hio way (t + 1 + 1 + 1) (by omega) (by omega)
  have hlP : (encT r P).length < sizeLine := lt_line (by rw [List.length_map]; omega)
  have hlen := putA_len P nm io'
  refine ⟨putA P nm (io'.1, io'.2), io', t2, some (.d (.str nm)), some (.d (.int way)), hP.put hnm q1 q2, hlen.1, hlen.2.2, q1, q2, by omega, by omega, ?_⟩
  refine (e1 _).trans ?_
  rw [seq_nx (e := [some (.d (.scr ns)), some (.c k), x2, some (.c st.length), some (.d (.tup (.tup (encK io.1) :: .tup (encK io.2) :: r))), some (.d (.str bg)), some (.d (.int md)), some (.d (.int i)), some (.d (.str nm)), some (.d (.int way))]) (s := PS st k r P (t + 1 + 1 + 1)) (by simp only [szs, fnM, rawM, seqM, ifM, tvM, truM, binM, unM, appM, consA, nilA, varM, conM, retM, retN, asgM, expM, raiseM, passS, callF, app1, app2, noExc, isExc_d, isExc_c, bindS_ok, bindS_err, bindS_stuck, Res.bind_ok, Res.bind_err, Res.bind_stuck, onBl_bl, andT, orT, notT, andV, orV, notV, tupM, lstM, toDs, toD, asD_d, asD_new, frzW_d, newT, newL, slM, slW, someO, noneO, ixW, addW, subW, mulW, modW, cmpW, negW, lenW, intW, tabW, isNonB, isNonW, isNon_d, List.map_cons, List.map_nil, List.length_cons, List.length_nil, List.replicate, List.append_nil, List.nil_append, List.cons_append, List.getElem?_cons_zero, List.getElem?_cons_succ, List.set_cons_zero, List.set_cons_succ, Nat.reduceAdd, Nat.reduceSub, if_true, if_false, ite_true, ite_false, Bool.not_true, Bool.not_false, Bool.and_true, Bool.and_false, Bool.false_eq_true, reduceIte, fin_same, finE_same, fin_new, atI_0, atI_1, atI_2, eqW_ofs, look_ofs, look_nil, dspC, newDc, inW, Option.isSome_some, Option.isSome_none, itM, forM, items_dl, items_dt, methL, methD, arg0, arg1, arg2, appendW, popW, listW, get_new, set_new, isLst_new, pow109, String.reduceBEq, String.reduceEq, Bool.false_or, Bool.true_or, Bool.or_false, Bool.or_true, ew])]
  rw [e2]
  have hV := par.val [some (.d (.scr ns)), some (.c k), x2, some (.c st.length), some (.d (.tup (.tup (encK io'.1) :: .tup (encK io'.2) :: r))), some (.d (.str bg)), some (.d (.int md)), some (.d (.int i)), some (.d (.str nm)), some (.d (.int way))] (PS st k r P t2) io'.1 io'.2 rfl
  simp only [szs, fnM, rawM, seqM, ifM, tvM, truM, binM, unM, appM, consA, nilA, varM, conM, retM, retN, asgM, expM, raiseM, passS, callF, app1, app2, noExc, isExc_d, isExc_c, bindS_ok, bindS_err, bindS_stuck, Res.bind_ok, Res.bind_err, Res.bind_stuck, onBl_bl, andT, orT, notT, andV, orV, notV, tupM, lstM, toDs, toD, asD_d, asD_new, frzW_d, newT, newL, slM, slW, someO, noneO, ixW, addW, subW, mulW, modW, cmpW, negW, lenW, intW, tabW, isNonB, isNonW, isNon_d, List.map_cons, List.map_nil, List.length_cons, List.length_nil, List.replicate, List.append_nil, List.nil_append, List.cons_append, List.getElem?_cons_zero, List.getElem?_cons_succ, List.set_cons_zero, List.set_cons_succ, Nat.reduceAdd, Nat.reduceSub, if_true, if_false, ite_true, ite_false, Bool.not_true, Bool.not_false, Bool.and_true, Bool.and_false, Bool.false_eq_true, reduceIte, fin_same, finE_same, fin_new, atI_0, atI_1, atI_2, eqW_ofs, look_ofs, look_nil, dspC, newDc, inW, Option.isSome_some, Option.isSome_none, itM, forM, items_dl, items_dt, methL, methD, arg0, arg1, arg2, appendW, popW, listW, get_new, set_new, isLst_new, pow109, String.reduceBEq, String.reduceEq, Bool.false_or, Bool.true_or, Bool.or_false, Bool.or_true, setDM, hV, pg hk, hlP, ps hk, putT]
theorem prog_loop (n : Nat) (hn : n ≤ 12) (h1n : 1 ≤ n) (bg : Str) (hb : PyData.strOk bg = true ∧ bg.length ≤ 50) (md : Int) (io : List Kd × List Kd) (hio : io.1.length ≤ 60 ∧ io.2.length ≤ 60) (t : Int) (h0 : 0 ≤ t) (h1 : t ≤ 500000) :
    ∃ (P : Td) (env' : Env) (t' : Int), TdOk P ∧ P.length ≤ 12 ∧ 1 ≤ P.length ∧ t ≤ t' ∧ t' ≤ t + 320 * n ∧ env'[3]? = some (some (.c st.length)) ∧
      loopS (.name 7) (progBody F R V) (uptoD n) [some (.d (.scr ns)), some (.c k), some (.d (.int n)), some (.c st.length), some (.d (.tup (.tup (encK io.1) :: .tup (encK io.2) :: r))), some (.d (.str bg)), some (.d (.int md)), none, none, none] (PS st k r [] t) = .nx env' (PS st k r P t') := by
  obtain ⟨env', st', e, P, io', t', x7, x8, x9, q1, q2, q3, q4, q5, q6, q7, q8, q9⟩ := loop_inv (t := .name 7) (body := progBody F R V)
    (fun ys env s => ∃ (P : Td) (io : List Kd × List Kd) (t' : Int) (x7 x8 x9 : Option W), TdOk P ∧ P.length + ys.length ≤ n ∧ (ys.length < n → 1 ≤ P.length) ∧ (io.1.length ≤ 60 ∧ io.2.length ≤ 60) ∧ (t ≤ t' ∧ t' + 320 * ys.length ≤ t + 320 * n) ∧
      env = [some (.d (.scr ns)), some (.c k), some (.d (.int n)), some (.c st.length), some (.d (.tup (.tup (encK io.1) :: .tup (encK io.2) :: r))), some (.d (.str bg)), some (.d (.int md)), x7, x8, x9] ∧ s = PS st k r P t' ∧ (∀ y ∈ ys, y ∈ uptoD n) ∧ True)
    (uptoD n) _ (PS st k r [] t)
    (fun x ys env s ⟨P, io, t', x7, x8, x9, q1, q2, q3, q4, q5, q6, q7, q8, _⟩ => by
      obtain ⟨i, hi, rfl⟩ := mem_upto (q8 x List.mem_cons_self)
      subst q6 q7
      simp only [List.length_cons] at q2 q5
      obtain ⟨P', io', t2, y8, y9, p1, p2, p3, p4, p5, p6, p7, e⟩ := prog_step hk ns par i (by omega) P q1 (by omega) (some (.d (.int n))) io q4 bg hb md x8 x9 t' (by omega) (by omega)
      exact ⟨_, _, _, rfl, e, P', io', t2, _, y8, y9, p1, by omega, fun _ => p3, ⟨p4, p5⟩, ⟨by omega, by omega⟩, rfl, rfl, fun y hy => q8 y (List.mem_cons_of_mem _ hy), trivial⟩)
    ⟨[], io, t, none, none, none, ⟨by simp, by simp, by simp⟩, by simp [uptoD], by simp [uptoD], hio, ⟨by omega, by simp [uptoD]⟩, rfl, rfl, fun y hy => hy, trivial⟩
  subst q6 q7
  simp only [List.length_nil] at q2 q3 q5
  exact ⟨P, _, t', q1, by omega, q3 (by omega), q5.1, by omega, rfl, e⟩
end
theorem fin_dct {st e : Store} {k j : Nat} {t t' : Int} {xs : List (Str × D)} (hk : k < st.length) (hj : st.length ≤ j) (h : ((st ++ e).set k (tc t'))[j]? = some (.dct xs)) :
    fin (st.set k (tc t)) (.c j) ((st ++ e).set k (tc t')) = .ok (.c st.length) (st.set k (tc t') ++ [.dct xs]) := by
  have e1 : (st ++ e).set k (tc t') = st.set k (tc t') ++ e := by rw [List.set_append_left _ _ hk]
  unfold fin
  rw [if_pos]
  · simp only [List.length_set]
    rw [if_neg (by omega), h]
    simp only
    rw [e1, List.take_left' (by simp)]
  · refine ⟨by rw [List.length_set, List.length_set, List.length_append]; omega, fun i fs hi h => ?_⟩
    rw [List.length_set] at hi
    rw [List.getElem?_set] at h ⊢
    split at h
    · split at h <;> cases h
    · rename_i hne
      rw [if_neg hne]
      rwa [List.getElem?_append_left hi] at h
noncomputable abbrev progAll (F : Fn) (R : M (List W)) (V : M W) : MS := (seqM (asgM 2 (binM (addW false) (conM (.int 1)) (callF s_draw (consA (varM 0) (consA (varM 1) (consA (conM (.int 4)) nilA))))))
 (seqM (ifM (tvM (binM (eqW false) (callF s_draw (consA (varM 0) (consA (varM 1) (consA (conM (.int 12)) nilA)))) (conM (.int 5))))
 (asgM 2 (binM (addW false) (conM (.int 6)) (callF s_draw (consA (varM 0) (consA (varM 1) (consA (conM (.int 6)) nilA))))))
 passS)
 (seqM (asgM 3 (dnewM true))
 (seqM (asgM 4 (tupM (consA (tupM (consA (conM (.str "num")) nilA)) (consA (tupM (consA (conM (.str "num")) nilA)) R))))
 (seqM (asgM 5 (callF s_words (consA (callF s_draw (consA (varM 0) (consA (varM 1) (consA (conM (.int 1000)) nilA)))) (consA (binM ixW (lstM false (consA (conM (.int 0)) (consA (conM (.int 2)) (consA (conM (.int 50)) nilA)))) (callF s_draw (consA (varM 0) (consA (varM 1) (consA (conM (.int 3)) nilA))))) nilA))))
 (seqM (asgM 6 (callF s_draw (consA (varM 0) (consA (varM 1) (consA (conM (.int 2)) nilA)))))
 (seqM (forM (rngM (varM 2)) (.name 7) (progBody F R V))
 (retM (varM 3)))))))))
theorem progAll_ok (ns : List Int) (k : Nat) (t : Int) (st : Store) (hk : k < st.length) (h0 : 0 ≤ t) (h1 : t ≤ 400000) {F : Fn} {R : M (List W)} {V : M W} {r : List D} (par : ProgPar F R V r) :
    ∃ (P : Td) (t' : Int), TdOk P ∧ P.length ≤ 12 ∧ 1 ≤ P.length ∧ t ≤ t' ∧ t' ≤ t + 4000 ∧ fnM 2 10 (progAll F R V) [.d (.scr ns), .c k] (st.set k (tc t)) = .ok (.c st.length) (st.set k (tc t') ++ [.dct (encT r P)]) := by
  obtain ⟨a, a0, a1, ea⟩ := draw2 ns k t 4 st hk h0 (by omega) (by decide)
  obtain ⟨b, b0, b1, eb⟩ := draw2 ns k (t + 1) 12 st hk (by omega) (by omega) (by decide)
  obtain ⟨c, c0, c1, ec⟩ := draw2 ns k (t + 1 + 1) 6 st hk (by omega) (by omega) (by decide)
  obtain ⟨n, t2, n1, n2, s1, s2, e0⟩ : ∃ (n : Nat) (t2 : Int), 1 ≤ n ∧ n ≤ 12 ∧ t ≤ t2 ∧ t2 ≤ t + 3 ∧ ∀ rest : MS, seqM (asgM 2 (binM (addW false) (conM (.int 1)) (callF s_draw (consA (varM 0) (consA (varM 1) (consA (conM (.int 4)) nilA)))))) (seqM (ifM (tvM (binM (eqW false) (callF s_draw (consA (varM 0) (consA (varM 1) (consA (conM (.int 12)) nilA)))) (conM (.int 5)))) (asgM 2 (binM (addW false) (conM (.int 6)) (callF s_draw (consA (varM 0) (consA (varM 1) (consA (conM (.int 6)) nilA)))))) passS) rest)
        [some (.d (.scr ns)), some (.c k), none, none, none, none, none, none, none, none] (st.set k (tc t)) = rest [some (.d (.scr ns)), some (.c k), some (.d (.int (n : Int))), none, none, none, none, none, none, none] (st.set k (tc t2)) := by
    by_cases hb : b = 5
    · subst hb
      refine ⟨(6 + c).toNat, t + 1 + 1 + 1, by omega, by omega, by omega, by omega, fun rest => ?_⟩
      rw [Int.toNat_of_nonneg (by omega)]
      simp only [szs, fnM, rawM, seqM, ifM, tvM, truM, binM, unM, appM, consA, nilA, varM, conM, retM, retN, asgM, expM, raiseM, passS, callF, app1, app2, noExc, isExc_d, isExc_c, bindS_ok, bindS_err, bindS_stuck, Res.bind_ok, Res.bind_err, Res.bind_stuck, onBl_bl, andT, orT, notT, andV, orV, notV, tupM, lstM, toDs, toD, asD_d, asD_new, frzW_d, newT, newL, slM, slW, someO, noneO, ixW, addW, subW, mulW, modW, cmpW, negW, lenW, intW, tabW, isNonB, isNonW, isNon_d, List.map_cons, List.map_nil, List.length_cons, List.length_nil, List.replicate, List.append_nil, List.nil_append, List.cons_append, List.getElem?_cons_zero, List.getElem?_cons_succ, List.set_cons_zero, List.set_cons_succ, Nat.reduceAdd, Nat.reduceSub, if_true, if_false, ite_true, ite_false, Bool.not_true, Bool.not_false, Bool.and_true, Bool.and_false, Bool.false_eq_true, reduceIte, fin_same, finE_same, fin_new, atI_0, atI_1, atI_2, eqW_ofs, look_ofs, look_nil, dspC, newDc, inW, Option.isSome_some, Option.isSome_none, itM, forM, items_dl, items_dt, methL, methD, arg0, arg1, arg2, appendW, popW, listW, get_new, set_new, isLst_new, pow109, String.reduceBEq, String.reduceEq, Bool.false_or, Bool.true_or, Bool.or_false, Bool.or_true, ea, eb, ec, eqW_int, beq_self_eq_true]
    · have hb' : (b == 5) = false := by simpa using hb
      refine ⟨(1 + a).toNat, t + 1 + 1, by omega, by omega, by omega, by omega, fun rest => ?_⟩
      rw [Int.toNat_of_nonneg (by omega)]
      simp only [szs, fnM, rawM, seqM, ifM, tvM, truM, binM, unM, appM, consA, nilA, varM, conM, retM, retN, asgM, expM, raiseM, passS, callF, app1, app2, noExc, isExc_d, isExc_c, bindS_ok, bindS_err, bindS_stuck, Res.bind_ok, Res.bind_err, Res.bind_stuck, onBl_bl, andT, orT, notT, andV, orV, notV, tupM, lstM, toDs, toD, asD_d, asD_new, frzW_d, newT, newL, slM, slW, someO, noneO, ixW, addW, subW, mulW, modW, cmpW, negW, lenW, intW, tabW, isNonB, isNonW, isNon_d, List.map_cons, List.map_nil, List.length_cons, List.length_nil, List.replicate, List.append_nil, List.nil_append, List.cons_append, List.getElem?_cons_zero, List.getElem?_cons_succ, List.set_cons_zero, List.set_cons_succ, Nat.reduceAdd, Nat.reduceSub, if_true, if_false, ite_true, ite_false, Bool.not_true, Bool.not_false, Bool.and_true, Bool.and_false, Bool.false_eq_true, reduceIte, fin_same, finE_same, fin_new, atI_0, atI_1, atI_2, eqW_ofs, look_ofs, look_nil, dspC, newDc, inW, Option.isSome_some, Option.isSome_none, itM, forM, items_dl, items_dt, methL, methD, arg0, arg1, arg2, appendW, popW, listW, get_new, set_new, isLst_new, pow109, String.reduceBEq, String.reduceEq, Bool.false_or, Bool.true_or, Bool.or_false, Bool.or_true, ea, eb, eqW_int, hb']
  obtain ⟨ws, hR, hT⟩ := par.rest
  have hlen := par.len
  have hsz : r.length + 1 + 1 ≤ sizeLine := small (by omega)
  have ePS : st.set k (tc t2) ++ [Cell.dct []] = PS st k r [] t2 := by rw [show PS st k r [] t2 = st.set k (tc t2) ++ [Cell.dct []] from List.set_append_left _ _ hk]
  obtain ⟨d, d0, d1, ed⟩ := pd hk ns (Cell.dct []) t2 1000 (by omega) (by omega) (by decide)
  obtain ⟨f, f0, f1, ef⟩ := pd hk ns (Cell.dct []) (t2 + 1) 3 (by omega) (by omega) (by decide)
  obtain ⟨z, hz, ez⟩ := atI_in D.int [0, 2, 50] f f0 f1
  simp only [List.map_cons, List.map_nil] at ez
  have hz2 : 0 ≤ z ∧ z ≤ 50 := by
    simp only [List.mem_cons, List.not_mem_nil, or_false] at hz
    rcases hz with h | h | h <;> omega
  obtain ⟨bg, g1, g2, eg⟩ := pw hk (Cell.dct []) (t2 + 1 + 1) d z hz2.1 (by omega)
  obtain ⟨md, m0, m1, em⟩ := pd hk ns (Cell.dct []) (t2 + 1 + 1) 2 (by omega) (by omega) (by decide)
  replace ed : s_draw [.d (.scr ns), .c k, .d (.int 1000)] (PS st k r [] t2) = .ok (.d (.int d)) (PS st k r [] (t2 + 1)) := ed
  replace ef : s_draw [.d (.scr ns), .c k, .d (.int 3)] (PS st k r [] (t2 + 1)) = .ok (.d (.int f)) (PS st k r [] (t2 + 1 + 1)) := ef
  replace eg : s_words [.d (.int d), .d (.int z)] (PS st k r [] (t2 + 1 + 1)) = .ok (.d (.str bg)) (PS st k r [] (t2 + 1 + 1)) := eg
  replace em : s_draw [.d (.scr ns), .c k, .d (.int 2)] (PS st k r [] (t2 + 1 + 1)) = .ok (.d (.int md)) (PS st k r [] (t2 + 1 + 1 + 1)) := em
  obtain ⟨P, env', t', q1, q2, q3, q4, q5, q6, eL⟩ := prog_loop hk ns par n n2 n1 bg ⟨g1, by omega⟩ md ([.num], [.num]) ⟨by decide, by decide⟩ (t2 + 1 + 1 + 1) (by omega) (by omega)
  refine ⟨P, t', q1, q2, q3, by omega, by omega, (fnM_ret rfl ?_).trans (fin_dct hk (Nat.le_refl _) (pg hk _ _))⟩
  refine (e0 _).trans ?_
  rw [seq_nx (e := [some (.d (.scr ns)), some (.c k), some (.d (.int n)), some (.c st.length), none, none, none, none, none, none]) (s := PS st k r [] t2) (by simp only [szs, fnM, rawM, seqM, ifM, tvM, truM, binM, unM, appM, consA, nilA, varM, conM, retM, retN, asgM, expM, raiseM, passS, callF, app1, app2, noExc, isExc_d, isExc_c, bindS_ok, bindS_err, bindS_stuck, Res.bind_ok, Res.bind_err, Res.bind_stuck, onBl_bl, andT, orT, notT, andV, orV, notV, tupM, lstM, toDs, toD, asD_d, asD_new, frzW_d, newT, newL, slM, slW, someO, noneO, ixW, addW, subW, mulW, modW, cmpW, negW, lenW, intW, tabW, isNonB, isNonW, isNon_d, List.map_cons, List.map_nil, List.length_cons, List.length_nil, List.replicate, List.append_nil, List.nil_append, List.cons_append, List.getElem?_cons_zero, List.getElem?_cons_succ, List.set_cons_zero, List.set_cons_succ, Nat.reduceAdd, Nat.reduceSub, if_true, if_false, ite_true, ite_false, Bool.not_true, Bool.not_false, Bool.and_true, Bool.and_false, Bool.false_eq_true, reduceIte, fin_same, finE_same, fin_new, atI_0, atI_1, atI_2, eqW_ofs, look_ofs, look_nil, dspC, newDc, inW, Option.isSome_some, Option.isSome_none, itM, forM, items_dl, items_dt, methL, methD, arg0, arg1, arg2, appendW, popW, listW, get_new, set_new, isLst_new, pow109, String.reduceBEq, String.reduceEq, Bool.false_or, Bool.true_or, Bool.or_false, Bool.or_true, dnewM, List.length_set]; rw [ePS])]
  rw [seq_nx (e := [some (.d (.scr ns)), some (.c k), some (.d (.int n)), some (.c st.length), some (.d (.tup (.tup (encK [.num]) :: .tup (encK [.num]) :: r))), none, none, none, none, none]) (s := PS st k r [] t2) (by simp only [szs, fnM, rawM, seqM, ifM, tvM, truM, binM, unM, appM, consA, nilA, varM, conM, retM, retN, asgM, expM, raiseM, passS, callF, app1, app2, noExc, isExc_d, isExc_c, bindS_ok, bindS_err, bindS_stuck, Res.bind_ok, Res.bind_err, Res.bind_stuck, onBl_bl, andT, orT, notT, andV, orV, notV, tupM, lstM, toDs, toD, asD_d, asD_new, frzW_d, newT, newL, slM, slW, someO, noneO, ixW, addW, subW, mulW, modW, cmpW, negW, lenW, intW, tabW, isNonB, isNonW, isNon_d, List.map_cons, List.map_nil, List.length_cons, List.length_nil, List.replicate, List.append_nil, List.nil_append, List.cons_append, List.getElem?_cons_zero, List.getElem?_cons_succ, List.set_cons_zero, List.set_cons_succ, Nat.reduceAdd, Nat.reduceSub, if_true, if_false, ite_true, ite_false, Bool.not_true, Bool.not_false, Bool.and_true, Bool.and_false, Bool.false_eq_true, reduceIte, fin_same, finE_same, fin_new, atI_0, atI_1, atI_2, eqW_ofs, look_ofs, look_nil, dspC, newDc, inW, Option.isSome_some, Option.isSome_none, itM, forM, items_dl, items_dt, methL, methD, arg0, arg1, arg2, appendW, popW, listW, get_new, set_new, isLst_new, pow109, String.reduceBEq, String.reduceEq, Bool.false_or, Bool.true_or, Bool.or_false, Bool.or_true, hR, hT, hsz, Kd.enc, Kd.s])]
  rw [seq_nx (e := [some (.d (.scr ns)), some (.c k), some (.d (.int n)), some (.c st.length), some (.d (.tup (.tup (encK [.num]) :: .tup (encK [.num]) :: r))), some (.d (.str bg)), none, none, none, none]) (s := PS st k r [] (t2 + 1 + 1)) (by simp only [szs, fnM, rawM, seqM, ifM, tvM, truM, binM, unM, appM, consA, nilA, varM, conM, retM, retN, asgM, expM, raiseM, passS, callF, app1, app2, noExc, isExc_d, isExc_c, bindS_ok, bindS_err, bindS_stuck, Res.bind_ok, Res.bind_err, Res.bind_stuck, onBl_bl, andT, orT, notT, andV, orV, notV, tupM, lstM, toDs, toD, asD_d, asD_new, frzW_d, newT, newL, slM, slW, someO, noneO, ixW, addW, subW, mulW, modW, cmpW, negW, lenW, intW, tabW, isNonB, isNonW, isNon_d, List.map_cons, List.map_nil, List.length_cons, List.length_nil, List.replicate, List.append_nil, List.nil_append, List.cons_append, List.getElem?_cons_zero, List.getElem?_cons_succ, List.set_cons_zero, List.set_cons_succ, Nat.reduceAdd, Nat.reduceSub, if_true, if_false, ite_true, ite_false, Bool.not_true, Bool.not_false, Bool.and_true, Bool.and_false, Bool.false_eq_true, reduceIte, fin_same, finE_same, fin_new, atI_0, atI_1, atI_2, eqW_ofs, look_ofs, look_nil, dspC, newDc, inW, Option.isSome_some, Option.isSome_none, itM, forM, items_dl, items_dt, methL, methD, arg0, arg1, arg2, appendW, popW, listW, get_new, set_new, isLst_new, pow109, String.reduceBEq, String.reduceEq, Bool.false_or, Bool.true_or, Bool.or_false, Bool.or_true, ed, ef, ez, eg])]
  rw [seq_nx (e := [some (.d (.scr ns)), some (.c k), some (.d (.int n)), some (.c st.length), some (.d (.tup (.tup (encK [.num]) :: .tup (encK [.num]) :: r))), some (.d (.str bg)), some (.d (.int md)), none, none, none]) (s := PS st k r [] (t2 + 1 + 1 + 1)) (by simp only [szs, fnM, rawM, seqM, ifM, tvM, truM, binM, unM, appM, consA, nilA, varM, conM, retM, retN, asgM, expM, raiseM, passS, callF, app1, app2, noExc, isExc_d, isExc_c, bindS_ok, bindS_err, bindS_stuck, Res.bind_ok, Res.bind_err, Res.bind_stuck, onBl_bl, andT, orT, notT, andV, orV, notV, tupM, lstM, toDs, toD, asD_d, asD_new, frzW_d, newT, newL, slM, slW, someO, noneO, ixW, addW, subW, mulW, modW, cmpW, negW, lenW, intW, tabW, isNonB, isNonW, isNon_d, List.map_cons, List.map_nil, List.length_cons, List.length_nil, List.replicate, List.append_nil, List.nil_append, List.cons_append, List.getElem?_cons_zero, List.getElem?_cons_succ, List.set_cons_zero, List.set_cons_succ, Nat.reduceAdd, Nat.reduceSub, if_true, if_false, ite_true, ite_false, Bool.not_true, Bool.not_false, Bool.and_true, Bool.and_false, Bool.false_eq_true, reduceIte, fin_same, finE_same, fin_new, atI_0, atI_1, atI_2, eqW_ofs, look_ofs, look_nil, dspC, newDc, inW, Option.isSome_some, Option.isSome_none, itM, forM, items_dl, items_dt, methL, methD, arg0, arg1, arg2, appendW, popW, listW, get_new, set_new, isLst_new, pow109, String.reduceBEq, String.reduceEq, Bool.false_or, Bool.true_or, Bool.or_false, Bool.or_true, em])]
  rw [seq_nx (e := env') (s := PS st k r P t') (by
    unfold forM
    rw [rng_ok _ _ _ (PS st k r [] (t2 + 1 + 1 + 1)) n (by simp only [szs, fnM, rawM, seqM, ifM, tvM, truM, binM, unM, appM, consA, nilA, varM, conM, retM, retN, asgM, expM, raiseM, passS, callF, app1, app2, noExc, isExc_d, isExc_c, bindS_ok, bindS_err, bindS_stuck, Res.bind_ok, Res.bind_err, Res.bind_stuck, onBl_bl, andT, orT, notT, andV, orV, notV, tupM, lstM, toDs, toD, asD_d, asD_new, frzW_d, newT, newL, slM, slW, someO, noneO, ixW, addW, subW, mulW, modW, cmpW, negW, lenW, intW, tabW, isNonB, isNonW, isNon_d, List.map_cons, List.map_nil, List.length_cons, List.length_nil, List.replicate, List.append_nil, List.nil_append, List.cons_append, List.getElem?_cons_zero, List.getElem?_cons_succ, List.set_cons_zero, List.set_cons_succ, Nat.reduceAdd, Nat.reduceSub, if_true, if_false, ite_true, ite_false, Bool.not_true, Bool.not_false, Bool.and_true, Bool.and_false, Bool.false_eq_true, reduceIte, fin_same, finE_same, fin_new, atI_0, atI_1, atI_2, eqW_ofs, look_ofs, look_nil, dspC, newDc, inW, Option.isSome_some, Option.isSome_none, itM, forM, items_dl, items_dt, methL, methD, arg0, arg1, arg2, appendW, popW, listW, get_new, set_new, isLst_new, pow109, String.reduceBEq, String.reduceEq, Bool.false_or, Bool.true_or, Bool.or_false, Bool.or_true]) (by omega)]
    exact eL)]
  simp only [szs, fnM, rawM, seqM, ifM, tvM, truM, binM, unM, appM, consA, nilA, varM, conM, retM, retN, asgM, expM, raiseM, passS, callF, app1, app2, noExc, isExc_d, isExc_c, bindS_ok, bindS_err, bindS_stuck, Res.bind_ok, Res.bind_err, Res.bind_stuck, onBl_bl, andT, orT, notT, andV, orV, notV, tupM, lstM, toDs, toD, asD_d, asD_new, frzW_d, newT, newL, slM, slW, someO, noneO, ixW, addW, subW, mulW, modW, cmpW, negW, lenW, intW, tabW, isNonB, isNonW, isNon_d, List.map_cons, List.map_nil, List.length_cons, List.length_nil, List.replicate, List.append_nil, List.nil_append, List.cons_append, List.getElem?_cons_zero, List.getElem?_cons_succ, List.set_cons_zero, List.set_cons_succ, Nat.reduceAdd, Nat.reduceSub, if_true, if_false, ite_true, ite_false, Bool.not_true, Bool.not_false, Bool.and_true, Bool.and_false, Bool.false_eq_true, reduceIte, fin_same, finE_same, fin_new, atI_0, atI_1, atI_2, eqW_ofs, look_ofs, look_nil, dspC, newDc, inW, Option.isSome_some, Option.isSome_none, itM, forM, items_dl, items_dt, methL, methD, arg0, arg1, arg2, appendW, popW, listW, get_new, set_new, isLst_new, pow109, String.reduceBEq, String.reduceEq, Bool.false_or, Bool.true_or, Bool.or_false, Bool.or_true, q6]
end Py

namespace Py
open PySem L2
/-- calls and ifs: the name that goes first -/
def Rw.first : Rw → Option Str
  | .plain _ => none
  | .call n => some n
  | .iff a _ => some a
section
variable {st : Store} {k : Nat} (hk : k < st.length) (ns : List Int)
include hk
end
end Py

namespace Py
open PySem L2
mutual
theorem eqv_refl : ∀ (d : D), d.fine = true → d.eqv d = true
  | .non, _ => rfl
  | .bl b, _ => by simp [D.eqv]
  | .int i, _ => by simp [D.eqv]
  | .str s, _ => by simp [D.eqv]
  | .tup xs, h => eqvL_refl2 xs h
  | .lst xs, h => eqvL_refl2 xs h
  | .dct _, h => by cases h
  | .scr _, h => by cases h
theorem eqvL_refl2 : ∀ (ds : List D), fineL ds = true → eqvL ds ds = true
  | [], _ => rfl
  | d :: ds, h => by
    have h' : (d.fine && fineL ds) = true := h
    rw [Bool.and_eq_true] at h'
    show (d.eqv d && eqvL ds ds) = true
    rw [eqv_refl d h'.1, eqvL_refl2 ds h'.2]; rfl
end
theorem look_of {k : Str} {v : D} : ∀ {kvs : List (Str × D)}, (kvs.map (·.1)).Nodup → (k, v) ∈ kvs → look k kvs = some v
  | (k', u) :: r, hn, h => by
    show (if k' = k then some u else look k r) = some v
    simp only [List.map_cons, List.nodup_cons] at hn
    rcases List.mem_cons.mp h with e | h
    · cases e; rw [if_pos rfl]
    · rw [if_neg (fun e => hn.1 (by rw [e]; exact List.mem_map.mpr ⟨_, h, rfl⟩))]
      exact look_of hn.2 h
theorem eqD_dct {kvs : List (Str × D)} (hn : (kvs.map (·.1)).Nodup) (hf : ∀ p ∈ kvs, p.2.fine = true ∧ p.2.dep ≤ 50) : eqD (.dct kvs) (.dct kvs) = some true := by
  have h1 : (kvs.all fun p => p.2.fine && decide (p.2.dep ≤ 50)) = true := List.all_eq_true.mpr fun p hp => by
    obtain ⟨a, b⟩ := hf p hp
    simp [a, b]
  have h2 : dctEqv kvs kvs = true := by
    unfold dctEqv
    rw [beq_self_eq_true, Bool.true_and, List.all_eq_true]
    intro p hp
    unfold hitD
    rw [look_of hn (show (p.1, p.2) ∈ kvs from hp)]
    exact eqv_refl p.2 (hf p hp).1
  unfold eqD
  simp only [h1, h2, Bool.and_self, if_true]
theorem cutS_len (z : Str) (lo hi : Option Int) : (cutS z lo hi).length ≤ z.length := by
  show (List.toArray ((z.cps.toList.drop _).take _)).size ≤ z.cps.size
  rw [List.size_toArray, List.length_take, List.length_drop, Array.length_toList]
  omega
theorem putA_new {α : Type} {kvs : List (Str × α)} {k : Str} {v : α} (h : ∀ p ∈ kvs, p.1 ≠ k) : putA kvs k v = kvs ++ [(k, v)] := by
  unfold putA
  rw [if_neg]
  intro q
  obtain ⟨p, hp, e⟩ := List.any_eq_true.mp q
  exact h p hp (by simpa using e)
theorem mod_in {v n : Int} (hn : 0 < n) : 0 ≤ v % n ∧ v % n < n := ⟨Int.emod_nonneg _ (by omega), Int.emod_lt_of_pos _ hn⟩
/-- a name that need not be there -/
theorem odd_ok (one : Str) (p : Int) (h : NmOk one) : ∃ z : Str, PyData.strOk z = true ∧ z.length ≤ 900 ∧ ∀ (env : Env) (st : Store), env[4]? = some (some (.d (.str one))) → env[5]? = some (some (.d (.int p))) →
    binM (addW false) (binM (addW false) (slM false (varM 4) noneO (someO (varM 5))) (conM (.str "?"))) (slM false (varM 4) (someO (binM (addW false) (varM 5) (conM (.int 1)))) noneO) env st = .ok (.d (.str z)) st := by
  have l1 := cutS_len one none (some p)
  have l2 := cutS_len one (some (p + 1)) none
  have hh := h.hi
  have lq : (Str.ofString "?").length = 1 := by decide +kernel
  refine ⟨cutS one none (some p) ++ Str.ofString "?" ++ cutS one (some (p + 1)) none, strOk_append (strOk_append (strOk_cut _ _ h.ok) (strOk_of _)) (strOk_cut _ _ h.ok), by rw [Str.length_append, Str.length_append]; omega, fun env st h4 h5 => ?_⟩
  have s0 : one.length ≤ sizeLine := small (by omega)
  have s1 : (cutS one none (some p)).length + (Str.ofString "?").length ≤ sizeLine := small (by omega)
  have s2 : (cutS one none (some p) ++ Str.ofString "?").length + (cutS one (some (p + 1)) none).length ≤ sizeLine := small (by rw [Str.length_append]; omega)
  simp only [szs, fnM, rawM, seqM, ifM, tvM, truM, binM, unM, appM, consA, nilA, varM, conM, retM, retN, asgM, expM, raiseM, passS, callF, app1, app2, noExc, isExc_d, isExc_c, bindS_ok, bindS_err, bindS_stuck, Res.bind_ok, Res.bind_err, Res.bind_stuck, onBl_bl, andT, orT, notT, andV, orV, notV, tupM, lstM, toDs, toD, asD_d, asD_new, frzW_d, newT, newL, slM, slW, someO, noneO, ixW, addW, subW, mulW, modW, cmpW, negW, lenW, intW, tabW, isNonB, isNonW, isNon_d, List.map_cons, List.map_nil, List.length_cons, List.length_nil, List.replicate, List.append_nil, List.nil_append, List.cons_append, List.getElem?_cons_zero, List.getElem?_cons_succ, List.set_cons_zero, List.set_cons_succ, Nat.reduceAdd, Nat.reduceSub, if_true, if_false, ite_true, ite_false, Bool.not_true, Bool.not_false, Bool.and_true, Bool.and_false, Bool.false_eq_true, reduceIte, fin_same, finE_same, fin_new, atI_0, atI_1, atI_2, eqW_ofs, look_ofs, look_nil, dspC, newDc, inW, Option.isSome_some, Option.isSome_none, itM, forM, items_dl, items_dt, methL, methD, arg0, arg1, arg2, appendW, popW, listW, get_new, set_new, isLst_new, pow109, String.reduceBEq, String.reduceEq, Bool.false_or, Bool.true_or, Bool.or_false, Bool.or_true, h4, h5, s0, s1, s2]
abbrev encS (l : List Str) : List D := l.map .str
theorem pick_ok (l : List Str) (v : Int) (h : 0 < l.length) : ∃ s ∈ l, atI (encS l) (v % (l.length : Int)) = some (.str s) := by
  obtain ⟨a, b⟩ := mod_in (v := v) (n := l.length) (by omega)
  exact atI_in D.str l _ a b
end Py

namespace Py
open PySem L2
theorem asg_ok {i : Nat} {e : M W} {env : Env} {st s : Store} {w : W} (h : e env st = .ok w s) : asgM i e env st = .nx (env.set i (some w)) s := by
  unfold asgM; rw [h]; rfl
theorem fr_ok {a : M W} {env : Env} {st s : Store} {k : Nat} {d : D} (h : a env st = .ok (.c k) s) (hd : asD s (.c k) = some d) : frM a env st = .ok (.d d) (s.set k (.frz d)) := by
  unfold frM; rw [h, Res.bind_ok]; unfold toD; rw [hd]; rfl
theorem draw0 (ns : List Int) (t m : Int) (tl : Store) (h0 : 0 ≤ t) (h1 : t ≤ 1000000) (hm : 0 < m) : ∃ v, 0 ≤ v ∧ v < m ∧ s_draw [.d (.scr ns), .c 0, .d (.int m)] (tc t :: tl) = .ok (.d (.int v)) (tc (t + 1) :: tl) :=
  draw2 ns 0 t m (tc t :: tl) (by simp) h0 h1 hm
theorem fin_nil (S' : Store) (x : D) : fin [] (.d x) S' = .ok (.d x) [] := by
  unfold fin
  rw [if_pos]
  · rfl
  · exact ⟨Nat.zero_le _, fun k fs hk _ => absurd hk (Nat.not_lt_zero _)⟩
/-- the names of a dict, as its list -/
theorem names_T (r : List D) (P : Td) : ((encT r P).map fun p => D.str p.1) = encS (P.map (·.1)) := by
  unfold encT encS; rw [List.map_map, List.map_map]; rfl
end Py

namespace Py
open PySem L2
theorem calledK_len {ks i o ks' : List Kd} (h : calledK ks i o = .ok ks') : ks'.length ≤ ks.length + o.length := by
  unfold calledK at h
  split at h
  · cases h
  · injection h with h; subst h; rw [List.length_append, List.length_take]; omega
theorem plainK_len (r : Row) (ks : List Kd) : (plainK r ks).length ≤ ks.length + 1 := by
  cases r with
  | num _ => simp [plainK]
  | text _ => simp [plainK]
  | copy _ => simp [plainK]
  | op o =>
    cases o with
    | swap =>
      have e : ∃ l, ks.reverse = l := ⟨_, rfl⟩
      obtain ⟨l, e⟩ := e
      have hl : ks.length = l.length := by rw [← e, List.length_reverse]
      unfold plainK
      rw [e]
      match l, hl with
      | [], hl => simp
      | [_], hl => simp
      | b :: a :: us, hl => simp at hl ⊢; omega
    | _ => simp [plainK, Op.puts] <;> omega
end Py

namespace Py
open PySem L2
/-! ### programs, trails -/
structure Blk where
  ins : List Kd
  outs : List Kd
  rows : List Rw
abbrev Prg := List (Str × Blk)
abbrev encR (rs : List Rw) : List D := rs.map Rw.enc
def Blk.enc (b : Blk) : D := .tup [.tup (encK b.ins), .tup (encK b.outs), .lst (encR b.rows)]
abbrev encP (P : Prg) : List (Str × D) := P.map fun p => (p.1, p.2.enc)
def telP (P : Prg) : Tl := fun n => (lookA n P).map fun b => (b.ins, b.outs)
structure BlkOk (b : Blk) : Prop where
  si : b.ins.length ≤ 60
  so : b.outs.length ≤ 60
  sr : b.rows.length ≤ 3000
  ro : ∀ r ∈ b.rows, r.ok
structure PrgOk (P : Prg) : Prop where
  nd : (P.map (·.1)).Nodup
  nm : ∀ p ∈ P, NmOk p.1
  bl : ∀ p ∈ P, BlkOk p.2
theorem lookP (P : Prg) (n : Str) : look n (encP P) = (lookA n P).map Blk.enc := look_map Blk.enc n P
theorem sees_P (P : Prg) : Sees (encP P) (telP P) := fun n => by
  rw [lookP]
  unfold telP
  cases lookA n P with
  | none => rfl
  | some b => exact ⟨_, rfl⟩
theorem PrgOk.small {P : Prg} (h : PrgOk P) : Small (telP P) := fun n i o e => by
  unfold telP at e
  cases q : lookA n P with
  | none => rw [q] at e; cases e
  | some b =>
    rw [q] at e
    cases e
    have := h.bl _ (lookA_mem q)
    exact ⟨this.si, this.so⟩
theorem PrgOk.put {P : Prg} {n : Str} {b : Blk} (h : PrgOk P) (hn : NmOk n) (hb : BlkOk b) : PrgOk (putA P n b) where
  nd := putA_nodup h.nd
  nm p hp := by
    rcases putA_mem hp with q | q
    · exact h.nm p q
    · subst q; exact hn
  bl p hp := by
    rcases putA_mem hp with q | q
    · exact h.bl p q
    · subst q; exact hb
theorem putP (P : Prg) (n : Str) (b : Blk) : putD (encP P) n b.enc = encP (putA P n b) := putD_map Blk.enc P n b
/-- the kinds ahead of each row and behind the last; the refusal -/
def trailK (f : Tl) (ks : List Kd) : List Rw → List (List Kd) × Option Exc
  | [] => ([ks], none)
  | r :: rs => match nextK f ks r with
    | .error e => ([ks], some e)
    | .ok k' => (ks :: (trailK f k' rs).1, (trailK f k' rs).2)
def runK (f : Tl) (ks : List Kd) : List Rw → Option (List Kd)
  | [] => some ks
  | r :: rs => match nextK f ks r with
    | .error _ => none
    | .ok k' => runK f k' rs
theorem runK_app {f : Tl} {rs : List Rw} : ∀ {as : List Rw} {ks k' : List Kd}, runK f ks as = some k' → runK f ks (as ++ rs) = runK f k' rs
  | [], _, _, h => by cases h; rfl
  | a :: as, ks, k', h => by
    simp only [runK, List.cons_append] at h ⊢
    cases q : nextK f ks a with
    | error e => rw [q] at h; cases h
    | ok k2 => rw [q] at h; exact runK_app h
theorem trailK_run {f : Tl} : ∀ {rs : List Rw} {ks k' : List Kd}, runK f ks rs = some k' → (trailK f ks rs).2 = none ∧ (trailK f ks rs).1.getLast? = some k'
  | [], _, _, h => by cases h; exact ⟨rfl, rfl⟩
  | a :: as, ks, k', h => by
    simp only [runK, trailK] at h ⊢
    cases q : nextK f ks a with
    | error e => rw [q] at h; cases h
    | ok k2 =>
      rw [q] at h
      obtain ⟨h1, h2⟩ := trailK_run h
      refine ⟨h1, ?_⟩
      simp only
      cases e : (trailK f k2 as).1 with
      | nil => rw [e] at h2; cases h2
      | cons x xs => rw [e] at h2; rw [List.getLast?_cons_cons]; exact h2
theorem trailK_ne (f : Tl) (ks : List Kd) (rs : List Rw) : (trailK f ks rs).1 ≠ [] := by
  cases rs with
  | nil => simp [trailK]
  | cons r rs => simp only [trailK]; cases nextK f ks r <;> simp
theorem nextK_len2 {f : Tl} {ks : List Kd} {r : Rw} {ks' : List Kd} (hf : Small f) (h : nextK f ks r = .ok ks') : ks'.length ≤ ks.length + 60 := by
  cases r with
  | plain r =>
    simp only [nextK] at h
    split at h
    · cases h
    · injection h with h; subst h; have := plainK_len r ks; omega
  | call n =>
    simp only [nextK] at h
    split at h
    · cases h
    · rename_i i o e
      have := calledK_len h
      have := (hf _ _ _ e).2
      omega
  | iff a b =>
    simp only [nextK] at h
    split at h
    · cases h
    · split at h
      · rename_i i o i' o' e e'
        split at h
        · have := calledK_len h
          have := (hf _ _ _ e).2
          have : ks.dropLast.length ≤ ks.length := by simp
          omega
        · cases h
      · cases h
theorem trailK_len (f : Tl) : ∀ (rs : List Rw) (ks : List Kd), (trailK f ks rs).1.length ≤ rs.length + 1
  | [], ks => by simp [trailK]
  | r :: rs, ks => by
    simp only [trailK]
    cases nextK f ks r with
    | error e => simp
    | ok k' => have := trailK_len f rs k'; simp; omega
/-- a block's way: its trail, and the word that ends it -/
def endsK (b : Blk) (t : List (List Kd) × Option Exc) : String := match t.2 with
  | some e => excS e
  | none => if t.1.getLast? = some b.outs then "" else "end"
def wayK (f : Tl) (b : Blk) : List (List Kd) × String := ((trailK f b.ins b.rows).1, endsK b (trailK f b.ins b.rows))
def GoodB (f : Tl) (b : Blk) : Prop := runK f b.ins b.rows = some b.outs
theorem GoodB.way {f : Tl} {b : Blk} (h : GoodB f b) : (wayK f b).2 = "" := by
  obtain ⟨h1, h2⟩ := trailK_run h
  unfold wayK endsK
  simp only [h1, h2, if_true]
theorem seq_ret {a b : MS} {env : Env} {st s : Store} {w : W} (h : a env st = .ret w s) : seqM a b env st = .ret w s := by
  unfold seqM; rw [h]
theorem if_t {c : M Bool} {a b : MS} {env : Env} {st s : Store} (h : c env st = .ok true s) : ifM c a b env st = a env s := by
  unfold ifM; rw [h]; rfl
theorem if_f {c : M Bool} {a b : MS} {env : Env} {st s : Store} (h : c env st = .ok false s) : ifM c a b env st = b env s := by
  unfold ifM; rw [h]; rfl
theorem bin_ok {g : W → W → Store → Res W} {a b : M W} {env : Env} {st s1 s2 : Store} {x y : W} (h1 : a env st = .ok x s1) (h2 : b env s1 = .ok y s2) : binM g a b env st = g x y s2 := by
  unfold binM; rw [h1, Res.bind_ok, h2]; rfl
theorem lcm_ok {it : M (List D)} {i : Nat} {c : M Bool} {e : M W} {env : Env} {st s1 s2 : Store} {xs ys : List D} (h1 : it env st = .ok xs s1) (h2 : lcLoop i c e xs [] env s1 = .ok ys s2) (h3 : ys.length ≤ sizeLine) : lcM false it i c e env st = .ok (.d (.lst ys)) s2 := by
  unfold lcM; rw [h1, Res.bind_ok, h2, Res.bind_ok]; unfold newL; rw [if_pos h3]; rfl
/-! ### pushes -/
def Val.push : Val → Rw | .i n => .plain (.num n) | .s t => .plain (.text t)
theorem push_enc (v : Val) : v.push.enc = .tup [v.kd.enc, v.enc] := by cases v <;> rfl
theorem push_okr {v : Val} (h : v.ok) : v.push.ok := by cases v <;> exact h
theorem need_nil (ks : List Kd) : need ks [] = none := by
  unfold need
  rw [if_neg (by simp)]
  simp
theorem push_next (f : Tl) (ks : List Kd) (v : Val) : nextK f ks v.push = .ok (ks ++ [v.kd]) := by
  cases v <;> simp only [Val.push, nextK, Row.wants, need_nil, plainK, Val.kd]
theorem push_run (f : Tl) : ∀ (vs : List Val) (ks : List Kd), runK f ks (vs.map Val.push) = some (ks ++ vs.map Val.kd)
  | [], ks => by simp [runK]
  | v :: vs, ks => by
    simp only [List.map_cons, runK, push_next]
    rw [push_run f vs]; simp
theorem pushes_ok (ns : List Int) (k : Nat) (t : Int) (st : Store) (hk : k < st.length) (h0 : 0 ≤ t) (ks : List Kd) (hl : ks.length ≤ 1000) (h1 : t ≤ 700000) (x : D) (hx : x = .lst (encK ks) ∨ x = .tup (encK ks)) :
    ∃ vs : List Val, vs.map Val.kd = ks ∧ (∀ v ∈ vs, v.ok) ∧ s_pushes [.d (.scr ns), .c k, .d x] (st.set k (tc t)) = .ok (.d (.lst (encR (vs.map Val.push)))) (st.set k (tc (t + 2 * ks.length))) := by
  have hit : ∀ s : Store, itemsW (.d x) s = .ok (encK ks) s := fun s => by rcases hx with rfl | rfl <;> rfl
  obtain ⟨out, st', e, vs, us, q1, q2, q3, q4, q5⟩ := lcLoop_inv (i := 3) (e := tupM (consA (varM 3) (consA (callF s_value (consA (varM 0) (consA (varM 1) (consA (varM 3) nilA)))) nilA))) (env := [some (.d (.scr ns)), some (.c k), some (.d x), none])
    (fun ys acc s => ∃ (vs : List Val) (us : List Kd), vs.map Val.kd ++ us = ks ∧ ys = encK us ∧ acc = encR (vs.map Val.push) ∧ s = st.set k (tc (t + 2 * vs.length)) ∧ ∀ v ∈ vs, v.ok) (encK ks) [] (st.set k (tc t))
    (fun y ys acc s ⟨vs, us, q1, q2, q3, q4, q5⟩ => by
      subst q3 q4
      cases us with
      | nil => cases q2
      | cons u us =>
        obtain ⟨rfl, rfl⟩ := List.cons.inj q2
        have hlen := congrArg List.length q1
        rw [List.length_append, List.length_map, List.length_cons] at hlen
        obtain ⟨v, v1, v2, ev⟩ := value_ok ns k (t + 2 * vs.length) u st hk (by omega) (by omega)
        refine ⟨v.push.enc, _, ?_, vs ++ [v], us, ?_, rfl, by simp, rfl, ?_⟩
        · rw [push_enc, v2]
          rw [show t + 2 * ((vs ++ [v]).length : Int) = t + 2 * (vs.length : Int) + 2 by rw [List.length_append, List.length_singleton]; omega]
          simp only [szs, fnM, rawM, seqM, ifM, tvM, truM, binM, unM, appM, consA, nilA, varM, conM, retM, retN, asgM, expM, raiseM, passS, callF, app1, app2, noExc, isExc_d, isExc_c, bindS_ok, bindS_err, bindS_stuck, Res.bind_ok, Res.bind_err, Res.bind_stuck, onBl_bl, andT, orT, notT, andV, orV, notV, tupM, lstM, toDs, toD, asD_d, asD_new, frzW_d, newT, newL, slM, slW, someO, noneO, ixW, addW, subW, mulW, modW, cmpW, negW, lenW, intW, tabW, isNonB, isNonW, isNon_d, List.map_cons, List.map_nil, List.length_cons, List.length_nil, List.replicate, List.append_nil, List.nil_append, List.cons_append, List.getElem?_cons_zero, List.getElem?_cons_succ, List.set_cons_zero, List.set_cons_succ, Nat.reduceAdd, Nat.reduceSub, if_true, if_false, ite_true, ite_false, Bool.not_true, Bool.not_false, Bool.and_true, Bool.and_false, Bool.false_eq_true, reduceIte, fin_same, finE_same, fin_new, atI_0, atI_1, atI_2, eqW_ofs, look_ofs, look_nil, dspC, newDc, inW, Option.isSome_some, Option.isSome_none, itM, forM, items_dl, items_dt, methL, methD, arg0, arg1, arg2, appendW, popW, listW, get_new, set_new, isLst_new, pow109, String.reduceBEq, String.reduceEq, Bool.false_or, Bool.true_or, Bool.or_false, Bool.or_true, ev]
        · rw [List.map_append, List.map_cons, List.map_nil, v2, ← q1]; simp
        · intro w hw
          rcases List.mem_append.mp hw with h | h
          · exact q5 w h
          · rw [List.mem_singleton] at h; subst h; exact v1)
    (by simp only [List.length_nil, List.length_map]; exact small (by omega)) ⟨[], ks, rfl, rfl, rfl, by simp, by simp⟩
  have hus : us = [] := by
    cases us with
    | nil => rfl
    | cons _ _ => cases q2
  subst hus q3 q4
  rw [List.append_nil] at q1
  have hvl : vs.length = ks.length := by rw [← q1, List.length_map]
  rw [hvl] at e
  have hsz : (encR (vs.map Val.push)).length ≤ sizeLine := small (by rw [List.length_map, List.length_map]; omega)
  refine ⟨vs, q1, q5, ?_⟩
  unfold s_pushes b_pushes
  refine (fnM_ret rfl ?_).trans (fin_set2 _ _ _ _ _)
  simp only [szs, fnM, rawM, seqM, ifM, tvM, truM, binM, unM, appM, consA, nilA, varM, conM, retM, retN, asgM, expM, raiseM, passS, callF, app1, app2, noExc, isExc_d, isExc_c, bindS_ok, bindS_err, bindS_stuck, Res.bind_ok, Res.bind_err, Res.bind_stuck, onBl_bl, andT, orT, notT, andV, orV, notV, tupM, lstM, toDs, toD, asD_d, asD_new, frzW_d, newT, newL, slM, slW, someO, noneO, ixW, addW, subW, mulW, modW, cmpW, negW, lenW, intW, tabW, isNonB, isNonW, isNon_d, List.map_cons, List.map_nil, List.length_cons, List.length_nil, List.replicate, List.append_nil, List.nil_append, List.cons_append, List.getElem?_cons_zero, List.getElem?_cons_succ, List.set_cons_zero, List.set_cons_succ, Nat.reduceAdd, Nat.reduceSub, if_true, if_false, ite_true, ite_false, Bool.not_true, Bool.not_false, Bool.and_true, Bool.and_false, Bool.false_eq_true, reduceIte, fin_same, finE_same, fin_new, atI_0, atI_1, atI_2, eqW_ofs, look_ofs, look_nil, dspC, newDc, inW, Option.isSome_some, Option.isSome_none, itM, forM, items_dl, items_dt, methL, methD, arg0, arg1, arg2, appendW, popW, listW, get_new, set_new, isLst_new, pow109, String.reduceBEq, String.reduceEq, Bool.false_or, Bool.true_or, Bool.or_false, Bool.or_true, lcM, hit]
  rw [e]
  simp only [szs, fnM, rawM, seqM, ifM, tvM, truM, binM, unM, appM, consA, nilA, varM, conM, retM, retN, asgM, expM, raiseM, passS, callF, app1, app2, noExc, isExc_d, isExc_c, bindS_ok, bindS_err, bindS_stuck, Res.bind_ok, Res.bind_err, Res.bind_stuck, onBl_bl, andT, orT, notT, andV, orV, notV, tupM, lstM, toDs, toD, asD_d, asD_new, frzW_d, newT, newL, slM, slW, someO, noneO, ixW, addW, subW, mulW, modW, cmpW, negW, lenW, intW, tabW, isNonB, isNonW, isNon_d, List.map_cons, List.map_nil, List.length_cons, List.length_nil, List.replicate, List.append_nil, List.nil_append, List.cons_append, List.getElem?_cons_zero, List.getElem?_cons_succ, List.set_cons_zero, List.set_cons_succ, Nat.reduceAdd, Nat.reduceSub, if_true, if_false, ite_true, ite_false, Bool.not_true, Bool.not_false, Bool.and_true, Bool.and_false, Bool.false_eq_true, reduceIte, fin_same, finE_same, fin_new, atI_0, atI_1, atI_2, eqW_ofs, look_ofs, look_nil, dspC, newDc, inW, Option.isSome_some, Option.isSome_none, itM, forM, items_dl, items_dt, methL, methD, arg0, arg1, arg2, appendW, popW, listW, get_new, set_new, isLst_new, pow109, String.reduceBEq, String.reduceEq, Bool.false_or, Bool.true_or, Bool.or_false, Bool.or_true, hsz]
theorem need_app (ks i : List Kd) : need (ks ++ i) (i.map some) = none := by
  unfold need
  rw [List.length_append, List.length_map, if_neg (by omega), show ks.length + i.length - i.length = ks.length by omega, List.drop_left]
  rw [if_neg]
  intro h
  obtain ⟨p, hp, hb⟩ := List.any_eq_true.mp h
  rw [List.zip_map_right] at hp
  obtain ⟨q, hq, rfl⟩ := List.mem_map.mp hp
  have : q.1 = q.2 := by
    have := List.mem_iff_getElem.mp hq
    obtain ⟨j, hj, e⟩ := this
    rw [List.getElem_zip] at e
    rw [← e]
  obtain ⟨a, b⟩ := q
  simp only at this
  subst this
  simp [bad, Prod.map] at hb
theorem called_app (ks i o : List Kd) : calledK (ks ++ i) i o = .ok (ks ++ o) := by
  unfold calledK
  rw [need_app]
  simp
theorem needS_none {ks : List Kd} {ws : List (Option Kd)} : (needS (need ks ws) == "") = true ↔ need ks ws = none := by
  rcases needS_eq ks ws with h | h | h <;> rw [h] <;> simp [needS]
end Py

namespace Py
open PySem L2
theorem eqW_str (neg : Bool) (a b : Str) (st : Store) (ha : PyData.strOk a = true) (hb : PyData.strOk b = true) : eqW neg (.d (.str a)) (.d (.str b)) st = .ok (.d (.bl (if neg then !(a == b) else a == b))) st := by
  unfold eqW eqD
  simp [asD, D.fine, D.dep, D.eqv, ha, hb]
theorem eqW_T (neg : Bool) (i o i' o' : List Kd) (st : Store) : eqW neg (.d (.tup [.tup (encK i), .tup (encK o)])) (.d (.tup [.tup (encK i'), .tup (encK o')])) st = .ok (.d (.bl (if neg then !(decide (i = i') && decide (o = o')) else (decide (i = i') && decide (o = o'))))) st := by
  unfold eqW
  have : eqD (.tup [.tup (encK i), .tup (encK o)]) (.tup [.tup (encK i'), .tup (encK o')]) = some (decide (i = i') && decide (o = o')) := by
    unfold eqD
    simp only [D.fine, fineL, D.dep, depL, fineK, depK, D.eqv, eqvL, eqvK2]
    simp
  simp only [asD_d, this]
theorem s_lack_2_is : s_lack_2 = s_lack := rfl
abbrev Tf (T : Td) : Tl := fun n => lookA n T
theorem iff_run (f : Tl) (ks i o : List Kd) (v : Int) (n m : Str) (hn : f n = some (i, o)) (hm : f m = some (i, o)) : runK f (ks ++ i) [.plain (.num v), .iff n m] = some (ks ++ o) := by
  have e1 : nextK f (ks ++ i) (.plain (.num v)) = .ok (ks ++ i ++ [.num]) := push_next f (ks ++ i) (.i v)
  have e2 : nextK f (ks ++ i ++ [.num]) (.iff n m) = .ok (ks ++ o) := by
    have h := need_app (ks ++ i) [.num]
    simp only [List.map_cons, List.map_nil] at h
    simp only [nextK, h, hn, hm, and_self, if_true, List.dropLast_concat, called_app]
  simp only [runK, e1, e2]
section
variable {st : Store} {k : Nat} (hk : k < st.length) (ns : List Int) {T : Td} (hT : TdOk T)
include hk hT
theorem choice_ok (t : Int) (h0 : 0 ≤ t) (h1 : t ≤ 600000) (ks : List Kd) (hl : ks.length ≤ 100000) (N : List Str) (hN : ∀ n ∈ N, NmOk n ∧ ∃ io, lookA n T = some io) (hN1 : 1 ≤ N.length) (hN2 : N.length ≤ 100) :
    ∃ (R : List Rw) (k' : List Kd) (t' : Int), (∀ r ∈ R, r.ok) ∧ R.length ≤ 62 ∧ runK (Tf T) ks R = some k' ∧ k'.length ≤ ks.length + 60 ∧ t ≤ t' ∧ t' ≤ t + 200 ∧
      s_choice [.d (.scr ns), .c k, .d (.dct (encT [] T)), .d (.lst (encS N)), .d (.lst (encK ks))] (st.set k (tc t)) = .ok (.d (.lst (encR R))) (st.set k (tc t')) := by
  obtain ⟨a, a0, a1, ea⟩ := draw2 ns k t N.length st hk h0 (by omega) (by omega)
  obtain ⟨n, hn, en⟩ := atI_in D.str N a a0 a1
  obtain ⟨hnm, ⟨i, o⟩, hio⟩ := hN n hn
  have hsm := hT.small n i o hio
  have hlk : look n (encT [] T) = some (.tup [.tup (encK i), .tup (encK o)]) := by rw [lookT, hio]; rfl
  have hNl : ((encS N).length : Int) = (N.length : Int) := by rw [List.length_map]
  obtain ⟨b, b0, b1, eb⟩ := draw2 ns k (t + 1) 2 st hk (by omega) (by omega) (by decide)
  have szi : (encK i).length ≤ sizeLine := small (by rw [List.length_map]; omega)
  have e1 : asgM 5 (binM ixW (varM 3) (callF s_draw (consA (varM 0) (consA (varM 1) (consA (appM (app1 lenW) (consA (varM 3) nilA)) nilA))))) [some (.d (.scr ns)), some (.c k), some (.d (.dct (encT [] T))), some (.d (.lst (encS N))), some (.d (.lst (encK ks))), none, none, none, none] (st.set k (tc t))
      = .nx [some (.d (.scr ns)), some (.c k), some (.d (.dct (encT [] T))), some (.d (.lst (encS N))), some (.d (.lst (encK ks))), some (.d (.str n)), none, none, none] (st.set k (tc (t + 1))) := by
    simp only [szs, fnM, rawM, seqM, ifM, tvM, truM, binM, unM, appM, consA, nilA, varM, conM, retM, retN, asgM, expM, raiseM, passS, callF, app1, app2, noExc, isExc_d, isExc_c, bindS_ok, bindS_err, bindS_stuck, Res.bind_ok, Res.bind_err, Res.bind_stuck, onBl_bl, andT, orT, notT, andV, orV, notV, tupM, lstM, toDs, toD, asD_d, asD_new, frzW_d, newT, newL, slM, slW, someO, noneO, ixW, addW, subW, mulW, modW, cmpW, negW, lenW, intW, tabW, isNonB, isNonW, isNon_d, List.map_cons, List.map_nil, List.length_cons, List.length_nil, List.replicate, List.append_nil, List.nil_append, List.cons_append, List.getElem?_cons_zero, List.getElem?_cons_succ, List.set_cons_zero, List.set_cons_succ, Nat.reduceAdd, Nat.reduceSub, if_true, if_false, ite_true, ite_false, Bool.not_true, Bool.not_false, Bool.and_true, Bool.and_false, Bool.false_eq_true, reduceIte, fin_same, finE_same, fin_new, atI_0, atI_1, atI_2, eqW_ofs, look_ofs, look_nil, dspC, newDc, inW, Option.isSome_some, Option.isSome_none, itM, forM, items_dl, items_dt, methL, methD, arg0, arg1, arg2, appendW, popW, listW, get_new, set_new, isLst_new, pow109, String.reduceBEq, String.reduceEq, Bool.false_or, Bool.true_or, Bool.or_false, Bool.or_true, hNl, ea, en]
  -- a call behind pushes
  have psh : ∀ t2 : Int, 0 ≤ t2 → t2 ≤ 650000 → ∃ vs : List Val, vs.map Val.kd = i ∧ (∀ v ∈ vs, v.ok) ∧ s_pushes [.d (.scr ns), .c k, .d (.tup (encK i))] (st.set k (tc t2)) = .ok (.d (.lst (encR (vs.map Val.push)))) (st.set k (tc (t2 + 2 * i.length))) :=
    fun t2 g0 g1 => pushes_ok ns k t2 st hk g0 i (by omega) (by omega) _ (.inr rfl)
  have okc : ∀ vs : List Val, (∀ v ∈ vs, v.ok) → ∀ r ∈ vs.map Val.push ++ [Rw.call n], r.ok := fun vs hv r hr => by
    rcases List.mem_append.mp hr with h | h
    · obtain ⟨v, hv', rfl⟩ := List.mem_map.mp h; exact push_okr (hv v hv')
    · rw [List.mem_singleton] at h; subst h; exact hnm.ok
  have calls : ∀ t2 : Int, 0 ≤ t2 → t2 ≤ 650000 → ∃ (R : List Rw), (∀ r ∈ R, r.ok) ∧ R.length ≤ 62 ∧ runK (Tf T) ks R = some (ks ++ o) ∧
      retM (binM (addW false) (callF s_pushes (consA (varM 0) (consA (varM 1) (consA (binM ixW (binM ixW (varM 2) (varM 5)) (conM (.int 0))) nilA)))) (lstM false (consA (tupM (consA (conM (.str "call")) (consA (varM 5) nilA))) nilA))) [some (.d (.scr ns)), some (.c k), some (.d (.dct (encT [] T))), some (.d (.lst (encS N))), some (.d (.lst (encK ks))), some (.d (.str n)), none, none, none] (st.set k (tc t2))
        = .ret (.d (.lst (encR R))) (st.set k (tc (t2 + 2 * i.length))) := fun t2 g0 g1 => by
    obtain ⟨vs, v1, v2, ev⟩ := psh t2 g0 g1
    have hvl : vs.length = i.length := by rw [← v1, List.length_map]
    refine ⟨vs.map Val.push ++ [.call n], okc vs v2, by rw [List.length_append, List.length_map, List.length_singleton]; omega, ?_, ?_⟩
    · rw [runK_app (push_run _ vs ks), v1]
      simp only [runK, nextK, hio, called_app]
    · have hsz : (encR (vs.map Val.push) ++ [D.tup [.str "call", .str n]]).length ≤ sizeLine := small (by rw [List.length_append, List.length_map, List.length_map, List.length_singleton]; omega)
      have happ : encR (vs.map Val.push) ++ [D.tup [.str "call", .str n]] = encR (vs.map Val.push ++ [.call n]) := by simp [Rw.enc]
      rw [happ] at hsz
      simp only [szs, fnM, rawM, seqM, ifM, tvM, truM, binM, unM, appM, consA, nilA, varM, conM, retM, retN, asgM, expM, raiseM, passS, callF, app1, app2, noExc, isExc_d, isExc_c, bindS_ok, bindS_err, bindS_stuck, Res.bind_ok, Res.bind_err, Res.bind_stuck, onBl_bl, andT, orT, notT, andV, orV, notV, tupM, lstM, toDs, toD, asD_d, asD_new, frzW_d, newT, newL, slM, slW, someO, noneO, ixW, addW, subW, mulW, modW, cmpW, negW, lenW, intW, tabW, isNonB, isNonW, isNon_d, List.map_cons, List.map_nil, List.length_cons, List.length_nil, List.replicate, List.append_nil, List.nil_append, List.cons_append, List.getElem?_cons_zero, List.getElem?_cons_succ, List.set_cons_zero, List.set_cons_succ, Nat.reduceAdd, Nat.reduceSub, if_true, if_false, ite_true, ite_false, Bool.not_true, Bool.not_false, Bool.and_true, Bool.and_false, Bool.false_eq_true, reduceIte, fin_same, finE_same, fin_new, atI_0, atI_1, atI_2, eqW_ofs, look_ofs, look_nil, dspC, newDc, inW, Option.isSome_some, Option.isSome_none, itM, forM, items_dl, items_dt, methL, methD, arg0, arg1, arg2, appendW, popW, listW, get_new, set_new, isLst_new, pow109, String.reduceBEq, String.reduceEq, Bool.false_or, Bool.true_or, Bool.or_false, Bool.or_true, hlk, ev, happ, hsz]
  have fin2 : ∀ (R : List Rw) (t' : Int) , b_choice [some (.d (.scr ns)), some (.c k), some (.d (.dct (encT [] T))), some (.d (.lst (encS N))), some (.d (.lst (encK ks))), none, none, none, none] (st.set k (tc t)) = .ret (.d (.lst (encR R))) (st.set k (tc t')) →
      s_choice [.d (.scr ns), .c k, .d (.dct (encT [] T)), .d (.lst (encS N)), .d (.lst (encK ks))] (st.set k (tc t)) = .ok (.d (.lst (encR R))) (st.set k (tc t')) := fun R t' h => (fnM_ret rfl h).trans (fin_set2 _ _ _ _ _)
  by_cases hb : b = 0
  · subst hb
    have hla := lack_ok ks (i.map some) (st.set k (tc (t + 1 + 1))) (by omega)
    rw [encL_some] at hla
    obtain ⟨c, c0, c1, ec⟩ := draw2 ns k (t + 1 + 1) 2 st hk (by omega) (by omega) (by decide)
    by_cases q : need ks (i.map some) = none
    · rw [q] at hla
      by_cases hc : c = 0
      · subst hc
        refine ⟨[.call n], ks.take (ks.length - i.length) ++ o, t + 1 + 1 + 1, fun r hr => by rw [List.mem_singleton] at hr; subst hr; exact hnm.ok, by simp, ?_, by rw [List.length_append, List.length_take]; omega, by omega, by omega, fin2 _ _ ?_⟩
        · simp only [runK, nextK, hio, calledK, q]
        · unfold b_choice
          rw [s_lack_2_is]
          refine (seq_nx e1).trans ?_
          simp only [szs, fnM, rawM, seqM, ifM, tvM, truM, binM, unM, appM, consA, nilA, varM, conM, retM, retN, asgM, expM, raiseM, passS, callF, app1, app2, noExc, isExc_d, isExc_c, bindS_ok, bindS_err, bindS_stuck, Res.bind_ok, Res.bind_err, Res.bind_stuck, onBl_bl, andT, orT, notT, andV, orV, notV, tupM, lstM, toDs, toD, asD_d, asD_new, frzW_d, newT, newL, slM, slW, someO, noneO, ixW, addW, subW, mulW, modW, cmpW, negW, lenW, intW, tabW, isNonB, isNonW, isNon_d, List.map_cons, List.map_nil, List.length_cons, List.length_nil, List.replicate, List.append_nil, List.nil_append, List.cons_append, List.getElem?_cons_zero, List.getElem?_cons_succ, List.set_cons_zero, List.set_cons_succ, Nat.reduceAdd, Nat.reduceSub, if_true, if_false, ite_true, ite_false, Bool.not_true, Bool.not_false, Bool.and_true, Bool.and_false, Bool.false_eq_true, reduceIte, fin_same, finE_same, fin_new, atI_0, atI_1, atI_2, eqW_ofs, look_ofs, look_nil, dspC, newDc, inW, Option.isSome_some, Option.isSome_none, itM, forM, items_dl, items_dt, methL, methD, arg0, arg1, arg2, appendW, popW, listW, get_new, set_new, isLst_new, pow109, String.reduceBEq, String.reduceEq, Bool.false_or, Bool.true_or, Bool.or_false, Bool.or_true, eb, eqW_int, beq_self_eq_true, hlk, szi, hla, needS, ec, Rw.enc]
      · have hc' : (c == 0) = false := by simpa using hc
        obtain ⟨R, r1, r2, r3, r4⟩ := calls (t + 1 + 1 + 1) (by omega) (by omega)
        refine ⟨R, ks ++ o, t + 1 + 1 + 1 + 2 * i.length, r1, r2, r3, by rw [List.length_append]; omega, by omega, by omega, fin2 _ _ ?_⟩
        unfold b_choice
        rw [s_lack_2_is]
        refine (seq_nx e1).trans ?_
        exact seq_ret ((if_t (s := st.set k (tc (t + 1 + 1))) (by simp only [szs, fnM, rawM, seqM, ifM, tvM, truM, binM, unM, appM, consA, nilA, varM, conM, retM, retN, asgM, expM, raiseM, passS, callF, app1, app2, noExc, isExc_d, isExc_c, bindS_ok, bindS_err, bindS_stuck, Res.bind_ok, Res.bind_err, Res.bind_stuck, onBl_bl, andT, orT, notT, andV, orV, notV, tupM, lstM, toDs, toD, asD_d, asD_new, frzW_d, newT, newL, slM, slW, someO, noneO, ixW, addW, subW, mulW, modW, cmpW, negW, lenW, intW, tabW, isNonB, isNonW, isNon_d, List.map_cons, List.map_nil, List.length_cons, List.length_nil, List.replicate, List.append_nil, List.nil_append, List.cons_append, List.getElem?_cons_zero, List.getElem?_cons_succ, List.set_cons_zero, List.set_cons_succ, Nat.reduceAdd, Nat.reduceSub, if_true, if_false, ite_true, ite_false, Bool.not_true, Bool.not_false, Bool.and_true, Bool.and_false, Bool.false_eq_true, reduceIte, fin_same, finE_same, fin_new, atI_0, atI_1, atI_2, eqW_ofs, look_ofs, look_nil, dspC, newDc, inW, Option.isSome_some, Option.isSome_none, itM, forM, items_dl, items_dt, methL, methD, arg0, arg1, arg2, appendW, popW, listW, get_new, set_new, isLst_new, pow109, String.reduceBEq, String.reduceEq, Bool.false_or, Bool.true_or, Bool.or_false, Bool.or_true, eb, eqW_int, beq_self_eq_true])).trans ((seq_nx (s := st.set k (tc (t + 1 + 1 + 1))) (by simp only [szs, fnM, rawM, seqM, ifM, tvM, truM, binM, unM, appM, consA, nilA, varM, conM, retM, retN, asgM, expM, raiseM, passS, callF, app1, app2, noExc, isExc_d, isExc_c, bindS_ok, bindS_err, bindS_stuck, Res.bind_ok, Res.bind_err, Res.bind_stuck, onBl_bl, andT, orT, notT, andV, orV, notV, tupM, lstM, toDs, toD, asD_d, asD_new, frzW_d, newT, newL, slM, slW, someO, noneO, ixW, addW, subW, mulW, modW, cmpW, negW, lenW, intW, tabW, isNonB, isNonW, isNon_d, List.map_cons, List.map_nil, List.length_cons, List.length_nil, List.replicate, List.append_nil, List.nil_append, List.cons_append, List.getElem?_cons_zero, List.getElem?_cons_succ, List.set_cons_zero, List.set_cons_succ, Nat.reduceAdd, Nat.reduceSub, if_true, if_false, ite_true, ite_false, Bool.not_true, Bool.not_false, Bool.and_true, Bool.and_false, Bool.false_eq_true, reduceIte, fin_same, finE_same, fin_new, atI_0, atI_1, atI_2, eqW_ofs, look_ofs, look_nil, dspC, newDc, inW, Option.isSome_some, Option.isSome_none, itM, forM, items_dl, items_dt, methL, methD, arg0, arg1, arg2, appendW, popW, listW, get_new, set_new, isLst_new, pow109, String.reduceBEq, String.reduceEq, Bool.false_or, Bool.true_or, Bool.or_false, Bool.or_true, hlk, szi, hla, needS, ec, eqW_int, hc'])).trans r4))
    · have hq : (needS (need ks (i.map some)) == "") = false := by
        have := mt needS_none.mp q
        simpa using this
      obtain ⟨R, r1, r2, r3, r4⟩ := calls (t + 1 + 1) (by omega) (by omega)
      refine ⟨R, ks ++ o, t + 1 + 1 + 2 * i.length, r1, r2, r3, by rw [List.length_append]; omega, by omega, by omega, fin2 _ _ ?_⟩
      unfold b_choice
      rw [s_lack_2_is]
      refine (seq_nx e1).trans ?_
      exact seq_ret ((if_t (s := st.set k (tc (t + 1 + 1))) (by simp only [szs, fnM, rawM, seqM, ifM, tvM, truM, binM, unM, appM, consA, nilA, varM, conM, retM, retN, asgM, expM, raiseM, passS, callF, app1, app2, noExc, isExc_d, isExc_c, bindS_ok, bindS_err, bindS_stuck, Res.bind_ok, Res.bind_err, Res.bind_stuck, onBl_bl, andT, orT, notT, andV, orV, notV, tupM, lstM, toDs, toD, asD_d, asD_new, frzW_d, newT, newL, slM, slW, someO, noneO, ixW, addW, subW, mulW, modW, cmpW, negW, lenW, intW, tabW, isNonB, isNonW, isNon_d, List.map_cons, List.map_nil, List.length_cons, List.length_nil, List.replicate, List.append_nil, List.nil_append, List.cons_append, List.getElem?_cons_zero, List.getElem?_cons_succ, List.set_cons_zero, List.set_cons_succ, Nat.reduceAdd, Nat.reduceSub, if_true, if_false, ite_true, ite_false, Bool.not_true, Bool.not_false, Bool.and_true, Bool.and_false, Bool.false_eq_true, reduceIte, fin_same, finE_same, fin_new, atI_0, atI_1, atI_2, eqW_ofs, look_ofs, look_nil, dspC, newDc, inW, Option.isSome_some, Option.isSome_none, itM, forM, items_dl, items_dt, methL, methD, arg0, arg1, arg2, appendW, popW, listW, get_new, set_new, isLst_new, pow109, String.reduceBEq, String.reduceEq, Bool.false_or, Bool.true_or, Bool.or_false, Bool.or_true, eb, eqW_int, beq_self_eq_true])).trans ((seq_nx (s := st.set k (tc (t + 1 + 1))) (by simp only [szs, fnM, rawM, seqM, ifM, tvM, truM, binM, unM, appM, consA, nilA, varM, conM, retM, retN, asgM, expM, raiseM, passS, callF, app1, app2, noExc, isExc_d, isExc_c, bindS_ok, bindS_err, bindS_stuck, Res.bind_ok, Res.bind_err, Res.bind_stuck, onBl_bl, andT, orT, notT, andV, orV, notV, tupM, lstM, toDs, toD, asD_d, asD_new, frzW_d, newT, newL, slM, slW, someO, noneO, ixW, addW, subW, mulW, modW, cmpW, negW, lenW, intW, tabW, isNonB, isNonW, isNon_d, List.map_cons, List.map_nil, List.length_cons, List.length_nil, List.replicate, List.append_nil, List.nil_append, List.cons_append, List.getElem?_cons_zero, List.getElem?_cons_succ, List.set_cons_zero, List.set_cons_succ, Nat.reduceAdd, Nat.reduceSub, if_true, if_false, ite_true, ite_false, Bool.not_true, Bool.not_false, Bool.and_true, Bool.and_false, Bool.false_eq_true, reduceIte, fin_same, finE_same, fin_new, atI_0, atI_1, atI_2, eqW_ofs, look_ofs, look_nil, dspC, newDc, inW, Option.isSome_some, Option.isSome_none, itM, forM, items_dl, items_dt, methL, methD, arg0, arg1, arg2, appendW, popW, listW, get_new, set_new, isLst_new, pow109, String.reduceBEq, String.reduceEq, Bool.false_or, Bool.true_or, Bool.or_false, Bool.or_true, hlk, szi, hla, hq])).trans r4))
  · have hb' : (b == 0) = false := by simpa using hb
    let cond : Str → Bool := fun m => decide (lookA m T = some (i, o)) && !(m == n)
    let LK : List Str := N.filter cond ++ [n]
    have hLK : ∀ m ∈ LK, NmOk m ∧ lookA m T = some (i, o) := fun m hm => by
      rcases List.mem_append.mp hm with h | h
      · obtain ⟨h1, h2⟩ := List.mem_filter.mp h
        refine ⟨(hN m h1).1, ?_⟩
        have h3 : (decide (lookA m T = some (i, o)) && !(m == n)) = true := h2
        rw [Bool.and_eq_true] at h3
        simpa using h3.1
      · rw [List.mem_singleton] at h; subst h; exact ⟨hnm, hio⟩
    have hLKl : LK.length = (N.filter cond).length + 1 := by rw [List.length_append, List.length_singleton]
    have hLK2 : LK.length ≤ 101 := by have := List.length_filter_le cond N; omega
    have elc : lcLoop 7 (andT (tvM (binM (eqW false) (binM ixW (varM 2) (varM 7)) (binM ixW (varM 2) (varM 5)))) (tvM (binM (eqW true) (varM 7) (varM 5)))) (varM 7) (encS N) [] [some (.d (.scr ns)), some (.c k), some (.d (.dct (encT [] T))), some (.d (.lst (encS N))), some (.d (.lst (encK ks))), some (.d (.str n)), none, none, none] (st.set k (tc (t + 1 + 1)))
        = .ok (encS (N.filter cond)) (st.set k (tc (t + 1 + 1))) := by
      rw [lcLoop_pure (fun x => x) (fun x => match x with | .str m => cond m | _ => false) (encS N) [] (fun x hx => ?_) (by simp only [List.length_nil, List.length_map]; exact small (by omega))]
      · rw [List.filter_map]
        simp only [List.nil_append, List.map_id']
        rfl
      · obtain ⟨m, hm, rfl⟩ := List.mem_map.mp hx
        obtain ⟨hm1, ⟨i', o'⟩, hm2⟩ := hN m hm
        have hlkm : look m (encT [] T) = some (.tup [.tup (encK i'), .tup (encK o')]) := by rw [lookT, hm2]; rfl
        constructor
        · show _ = Res.ok (decide (lookA m T = some (i, o)) && !(m == n)) _
          by_cases h1 : i' = i
          · by_cases h2 : o' = o
            · subst h1 h2
              simp only [szs, fnM, rawM, seqM, ifM, tvM, truM, binM, unM, appM, consA, nilA, varM, conM, retM, retN, asgM, expM, raiseM, passS, callF, app1, app2, noExc, isExc_d, isExc_c, bindS_ok, bindS_err, bindS_stuck, Res.bind_ok, Res.bind_err, Res.bind_stuck, onBl_bl, andT, orT, notT, andV, orV, notV, tupM, lstM, toDs, toD, asD_d, asD_new, frzW_d, newT, newL, slM, slW, someO, noneO, ixW, addW, subW, mulW, modW, cmpW, negW, lenW, intW, tabW, isNonB, isNonW, isNon_d, List.map_cons, List.map_nil, List.length_cons, List.length_nil, List.replicate, List.append_nil, List.nil_append, List.cons_append, List.getElem?_cons_zero, List.getElem?_cons_succ, List.set_cons_zero, List.set_cons_succ, Nat.reduceAdd, Nat.reduceSub, if_true, if_false, ite_true, ite_false, Bool.not_true, Bool.not_false, Bool.and_true, Bool.and_false, Bool.false_eq_true, reduceIte, fin_same, finE_same, fin_new, atI_0, atI_1, atI_2, eqW_ofs, look_ofs, look_nil, dspC, newDc, inW, Option.isSome_some, Option.isSome_none, itM, forM, items_dl, items_dt, methL, methD, arg0, arg1, arg2, appendW, popW, listW, get_new, set_new, isLst_new, pow109, String.reduceBEq, String.reduceEq, Bool.false_or, Bool.true_or, Bool.or_false, Bool.or_true, hlk, hlkm, eqW_T, decide_true, eqW_str _ _ _ _ hm1.ok hnm.ok, hm2, Bool.true_and]
            · simp only [szs, fnM, rawM, seqM, ifM, tvM, truM, binM, unM, appM, consA, nilA, varM, conM, retM, retN, asgM, expM, raiseM, passS, callF, app1, app2, noExc, isExc_d, isExc_c, bindS_ok, bindS_err, bindS_stuck, Res.bind_ok, Res.bind_err, Res.bind_stuck, onBl_bl, andT, orT, notT, andV, orV, notV, tupM, lstM, toDs, toD, asD_d, asD_new, frzW_d, newT, newL, slM, slW, someO, noneO, ixW, addW, subW, mulW, modW, cmpW, negW, lenW, intW, tabW, isNonB, isNonW, isNon_d, List.map_cons, List.map_nil, List.length_cons, List.length_nil, List.replicate, List.append_nil, List.nil_append, List.cons_append, List.getElem?_cons_zero, List.getElem?_cons_succ, List.set_cons_zero, List.set_cons_succ, Nat.reduceAdd, Nat.reduceSub, if_true, if_false, ite_true, ite_false, Bool.not_true, Bool.not_false, Bool.and_true, Bool.and_false, Bool.false_eq_true, reduceIte, fin_same, finE_same, fin_new, atI_0, atI_1, atI_2, eqW_ofs, look_ofs, look_nil, dspC, newDc, inW, Option.isSome_some, Option.isSome_none, itM, forM, items_dl, items_dt, methL, methD, arg0, arg1, arg2, appendW, popW, listW, get_new, set_new, isLst_new, pow109, String.reduceBEq, String.reduceEq, Bool.false_or, Bool.true_or, Bool.or_false, Bool.or_true, hlk, hlkm, eqW_T, h1, h2, decide_false, Bool.true_and, hm2, Option.some.injEq, Prod.mk.injEq, and_false, Bool.false_and]
          · simp only [szs, fnM, rawM, seqM, ifM, tvM, truM, binM, unM, appM, consA, nilA, varM, conM, retM, retN, asgM, expM, raiseM, passS, callF, app1, app2, noExc, isExc_d, isExc_c, bindS_ok, bindS_err, bindS_stuck, Res.bind_ok, Res.bind_err, Res.bind_stuck, onBl_bl, andT, orT, notT, andV, orV, notV, tupM, lstM, toDs, toD, asD_d, asD_new, frzW_d, newT, newL, slM, slW, someO, noneO, ixW, addW, subW, mulW, modW, cmpW, negW, lenW, intW, tabW, isNonB, isNonW, isNon_d, List.map_cons, List.map_nil, List.length_cons, List.length_nil, List.replicate, List.append_nil, List.nil_append, List.cons_append, List.getElem?_cons_zero, List.getElem?_cons_succ, List.set_cons_zero, List.set_cons_succ, Nat.reduceAdd, Nat.reduceSub, if_true, if_false, ite_true, ite_false, Bool.not_true, Bool.not_false, Bool.and_true, Bool.and_false, Bool.false_eq_true, reduceIte, fin_same, finE_same, fin_new, atI_0, atI_1, atI_2, eqW_ofs, look_ofs, look_nil, dspC, newDc, inW, Option.isSome_some, Option.isSome_none, itM, forM, items_dl, items_dt, methL, methD, arg0, arg1, arg2, appendW, popW, listW, get_new, set_new, isLst_new, pow109, String.reduceBEq, String.reduceEq, Bool.false_or, Bool.true_or, Bool.or_false, Bool.or_true, hlk, hlkm, eqW_T, h1, decide_false, Bool.true_and, hm2, Option.some.injEq, Prod.mk.injEq, false_and, Bool.false_and]
        · intro _
          simp only [szs, fnM, rawM, seqM, ifM, tvM, truM, binM, unM, appM, consA, nilA, varM, conM, retM, retN, asgM, expM, raiseM, passS, callF, app1, app2, noExc, isExc_d, isExc_c, bindS_ok, bindS_err, bindS_stuck, Res.bind_ok, Res.bind_err, Res.bind_stuck, onBl_bl, andT, orT, notT, andV, orV, notV, tupM, lstM, toDs, toD, asD_d, asD_new, frzW_d, newT, newL, slM, slW, someO, noneO, ixW, addW, subW, mulW, modW, cmpW, negW, lenW, intW, tabW, isNonB, isNonW, isNon_d, List.map_cons, List.map_nil, List.length_cons, List.length_nil, List.replicate, List.append_nil, List.nil_append, List.cons_append, List.getElem?_cons_zero, List.getElem?_cons_succ, List.set_cons_zero, List.set_cons_succ, Nat.reduceAdd, Nat.reduceSub, if_true, if_false, ite_true, ite_false, Bool.not_true, Bool.not_false, Bool.and_true, Bool.and_false, Bool.false_eq_true, reduceIte, fin_same, finE_same, fin_new, atI_0, atI_1, atI_2, eqW_ofs, look_ofs, look_nil, dspC, newDc, inW, Option.isSome_some, Option.isSome_none, itM, forM, items_dl, items_dt, methL, methD, arg0, arg1, arg2, appendW, popW, listW, get_new, set_new, isLst_new, pow109, String.reduceBEq, String.reduceEq, Bool.false_or, Bool.true_or, Bool.or_false, Bool.or_true]
    have hszN : (encS (N.filter cond)).length ≤ sizeLine := small (by rw [List.length_map]; omega)
    have hszL : (encS LK).length ≤ sizeLine := small (by rw [List.length_map]; omega)
    have happL : encS (N.filter cond) ++ [.str n] = encS LK := by simp [LK]
    have hlenL : ((encS LK).length : Int) = (LK.length : Int) := by rw [List.length_map]
    obtain ⟨c, c0, c1, ec⟩ := draw2 ns k (t + 1 + 1) 1000 st hk (by omega) (by omega) (by decide)
    obtain ⟨M, hM1, hM2, hM3⟩ : ∃ M : Int, 0 < M ∧ M ≤ LK.length ∧ (if ((LK.length : Int) - 1) > 1 then (LK.length : Int) - 1 else 1) = M := by
      refine ⟨_, ?_, ?_, rfl⟩ <;> split <;> omega
    obtain ⟨m0, m1⟩ := mod_in (v := c) hM1
    obtain ⟨other, ho, eo⟩ := atI_in D.str LK (c % M) m0 (by omega)
    obtain ⟨hoo, hio2⟩ := hLK other ho
    obtain ⟨v, v1, v2, ev⟩ := value_ok ns k (t + 1 + 1 + 1) .num st hk (by omega) (by omega)
    cases v with
    | s _ => cases v2
    | i z =>
    obtain ⟨d, d0, d1, ed⟩ := draw2 ns k (t + 1 + 1 + 1 + 2) 4 st hk (by omega) (by omega) (by decide)
    obtain ⟨y, hy, ey⟩ := atI_in D.int [0, 1, 2, z] d d0 d1
    have hyo : (Val.i y).ok := by
      have hz : 0 ≤ z ∧ z < 1000000000 := v1
      show 0 ≤ y ∧ y < 1000000000
      simp only [List.mem_cons, List.not_mem_nil, or_false] at hy
      rcases hy with h | h | h | h <;> omega
    simp only [List.map_cons, List.map_nil] at ey
    obtain ⟨vs, p1, p2, ep⟩ := psh (t + 1 + 1 + 1 + 2 + 1) (by omega) (by omega)
    have hvl : vs.length = i.length := by rw [← p1, List.length_map]
    refine ⟨vs.map Val.push ++ [.plain (.num y), .iff n other], ks ++ o, t + 1 + 1 + 1 + 2 + 1 + 2 * i.length, ?_, by rw [List.length_append, List.length_map]; simp; omega, ?_, by rw [List.length_append]; omega, by omega, by omega, fin2 _ _ ?_⟩
    · intro r hr
      rcases List.mem_append.mp hr with h | h
      · obtain ⟨v, hv', rfl⟩ := List.mem_map.mp h; exact push_okr (p2 v hv')
      · simp only [List.mem_cons, List.not_mem_nil, or_false] at h
        rcases h with rfl | rfl
        · exact hyo
        · exact ⟨hnm.ok, hoo.ok⟩
    · rw [runK_app (push_run _ vs ks), p1]
      exact iff_run _ ks i o y n other hio hio2
    · unfold b_choice
      rw [s_lack_2_is]
      refine (seq_nx e1).trans ?_
      refine (seq_nx (s := st.set k (tc (t + 1 + 1))) (e := [some (.d (.scr ns)), some (.c k), some (.d (.dct (encT [] T))), some (.d (.lst (encS N))), some (.d (.lst (encK ks))), some (.d (.str n)), none, none, none]) (by simp only [szs, fnM, rawM, seqM, ifM, tvM, truM, binM, unM, appM, consA, nilA, varM, conM, retM, retN, asgM, expM, raiseM, passS, callF, app1, app2, noExc, isExc_d, isExc_c, bindS_ok, bindS_err, bindS_stuck, Res.bind_ok, Res.bind_err, Res.bind_stuck, onBl_bl, andT, orT, notT, andV, orV, notV, tupM, lstM, toDs, toD, asD_d, asD_new, frzW_d, newT, newL, slM, slW, someO, noneO, ixW, addW, subW, mulW, modW, cmpW, negW, lenW, intW, tabW, isNonB, isNonW, isNon_d, List.map_cons, List.map_nil, List.length_cons, List.length_nil, List.replicate, List.append_nil, List.nil_append, List.cons_append, List.getElem?_cons_zero, List.getElem?_cons_succ, List.set_cons_zero, List.set_cons_succ, Nat.reduceAdd, Nat.reduceSub, if_true, if_false, ite_true, ite_false, Bool.not_true, Bool.not_false, Bool.and_true, Bool.and_false, Bool.false_eq_true, reduceIte, fin_same, finE_same, fin_new, atI_0, atI_1, atI_2, eqW_ofs, look_ofs, look_nil, dspC, newDc, inW, Option.isSome_some, Option.isSome_none, itM, forM, items_dl, items_dt, methL, methD, arg0, arg1, arg2, appendW, popW, listW, get_new, set_new, isLst_new, pow109, String.reduceBEq, String.reduceEq, Bool.false_or, Bool.true_or, Bool.or_false, Bool.or_true, eb, eqW_int, hb'])).trans ?_
      refine (seq_nx (s := st.set k (tc (t + 1 + 1))) (e := [some (.d (.scr ns)), some (.c k), some (.d (.dct (encT [] T))), some (.d (.lst (encS N))), some (.d (.lst (encK ks))), some (.d (.str n)), some (.d (.lst (encS LK))), none, none]) (by
        refine asg_ok (w := .d (.lst (encS LK))) ?_
        rw [bin_ok (lcm_ok (by simp only [szs, fnM, rawM, seqM, ifM, tvM, truM, binM, unM, appM, consA, nilA, varM, conM, retM, retN, asgM, expM, raiseM, passS, callF, app1, app2, noExc, isExc_d, isExc_c, bindS_ok, bindS_err, bindS_stuck, Res.bind_ok, Res.bind_err, Res.bind_stuck, onBl_bl, andT, orT, notT, andV, orV, notV, tupM, lstM, toDs, toD, asD_d, asD_new, frzW_d, newT, newL, slM, slW, someO, noneO, ixW, addW, subW, mulW, modW, cmpW, negW, lenW, intW, tabW, isNonB, isNonW, isNon_d, List.map_cons, List.map_nil, List.length_cons, List.length_nil, List.replicate, List.append_nil, List.nil_append, List.cons_append, List.getElem?_cons_zero, List.getElem?_cons_succ, List.set_cons_zero, List.set_cons_succ, Nat.reduceAdd, Nat.reduceSub, if_true, if_false, ite_true, ite_false, Bool.not_true, Bool.not_false, Bool.and_true, Bool.and_false, Bool.false_eq_true, reduceIte, fin_same, finE_same, fin_new, atI_0, atI_1, atI_2, eqW_ofs, look_ofs, look_nil, dspC, newDc, inW, Option.isSome_some, Option.isSome_none, itM, forM, items_dl, items_dt, methL, methD, arg0, arg1, arg2, appendW, popW, listW, get_new, set_new, isLst_new, pow109, String.reduceBEq, String.reduceEq, Bool.false_or, Bool.true_or, Bool.or_false, Bool.or_true]) elc hszN) (y := .d (.lst [.str n])) (s2 := st.set k (tc (t + 1 + 1))) (by simp only [szs, fnM, rawM, seqM, ifM, tvM, truM, binM, unM, appM, consA, nilA, varM, conM, retM, retN, asgM, expM, raiseM, passS, callF, app1, app2, noExc, isExc_d, isExc_c, bindS_ok, bindS_err, bindS_stuck, Res.bind_ok, Res.bind_err, Res.bind_stuck, onBl_bl, andT, orT, notT, andV, orV, notV, tupM, lstM, toDs, toD, asD_d, asD_new, frzW_d, newT, newL, slM, slW, someO, noneO, ixW, addW, subW, mulW, modW, cmpW, negW, lenW, intW, tabW, isNonB, isNonW, isNon_d, List.map_cons, List.map_nil, List.length_cons, List.length_nil, List.replicate, List.append_nil, List.nil_append, List.cons_append, List.getElem?_cons_zero, List.getElem?_cons_succ, List.set_cons_zero, List.set_cons_succ, Nat.reduceAdd, Nat.reduceSub, if_true, if_false, ite_true, ite_false, Bool.not_true, Bool.not_false, Bool.and_true, Bool.and_false, Bool.false_eq_true, reduceIte, fin_same, finE_same, fin_new, atI_0, atI_1, atI_2, eqW_ofs, look_ofs, look_nil, dspC, newDc, inW, Option.isSome_some, Option.isSome_none, itM, forM, items_dl, items_dt, methL, methD, arg0, arg1, arg2, appendW, popW, listW, get_new, set_new, isLst_new, pow109, String.reduceBEq, String.reduceEq, Bool.false_or, Bool.true_or, Bool.or_false, Bool.or_true])]
        simp only [szs, fnM, rawM, seqM, ifM, tvM, truM, binM, unM, appM, consA, nilA, varM, conM, retM, retN, asgM, expM, raiseM, passS, callF, app1, app2, noExc, isExc_d, isExc_c, bindS_ok, bindS_err, bindS_stuck, Res.bind_ok, Res.bind_err, Res.bind_stuck, onBl_bl, andT, orT, notT, andV, orV, notV, tupM, lstM, toDs, toD, asD_d, asD_new, frzW_d, newT, newL, slM, slW, someO, noneO, ixW, addW, subW, mulW, modW, cmpW, negW, lenW, intW, tabW, isNonB, isNonW, isNon_d, List.map_cons, List.map_nil, List.length_cons, List.length_nil, List.replicate, List.append_nil, List.nil_append, List.cons_append, List.getElem?_cons_zero, List.getElem?_cons_succ, List.set_cons_zero, List.set_cons_succ, Nat.reduceAdd, Nat.reduceSub, if_true, if_false, ite_true, ite_false, Bool.not_true, Bool.not_false, Bool.and_true, Bool.and_false, Bool.false_eq_true, reduceIte, fin_same, finE_same, fin_new, atI_0, atI_1, atI_2, eqW_ofs, look_ofs, look_nil, dspC, newDc, inW, Option.isSome_some, Option.isSome_none, itM, forM, items_dl, items_dt, methL, methD, arg0, arg1, arg2, appendW, popW, listW, get_new, set_new, isLst_new, pow109, String.reduceBEq, String.reduceEq, Bool.false_or, Bool.true_or, Bool.or_false, Bool.or_true, happL, hszL])).trans ?_
      refine (seq_nx (s := st.set k (tc (t + 1 + 1 + 1))) (e := [some (.d (.scr ns)), some (.c k), some (.d (.dct (encT [] T))), some (.d (.lst (encS N))), some (.d (.lst (encK ks))), some (.d (.str n)), some (.d (.lst (encS LK))), some (.d (.str other)), none]) (by
        simp only [szs, fnM, rawM, seqM, ifM, tvM, truM, binM, unM, appM, consA, nilA, varM, conM, retM, retN, asgM, expM, raiseM, passS, callF, app1, app2, noExc, isExc_d, isExc_c, bindS_ok, bindS_err, bindS_stuck, Res.bind_ok, Res.bind_err, Res.bind_stuck, onBl_bl, andT, orT, notT, andV, orV, notV, tupM, lstM, toDs, toD, asD_d, asD_new, frzW_d, newT, newL, slM, slW, someO, noneO, ixW, addW, subW, mulW, modW, cmpW, negW, lenW, intW, tabW, isNonB, isNonW, isNon_d, List.map_cons, List.map_nil, List.length_cons, List.length_nil, List.replicate, List.append_nil, List.nil_append, List.cons_append, List.getElem?_cons_zero, List.getElem?_cons_succ, List.set_cons_zero, List.set_cons_succ, Nat.reduceAdd, Nat.reduceSub, if_true, if_false, ite_true, ite_false, Bool.not_true, Bool.not_false, Bool.and_true, Bool.and_false, Bool.false_eq_true, reduceIte, fin_same, finE_same, fin_new, atI_0, atI_1, atI_2, eqW_ofs, look_ofs, look_nil, dspC, newDc, inW, Option.isSome_some, Option.isSome_none, itM, forM, items_dl, items_dt, methL, methD, arg0, arg1, arg2, appendW, popW, listW, get_new, set_new, isLst_new, pow109, String.reduceBEq, String.reduceEq, Bool.false_or, Bool.true_or, Bool.or_false, Bool.or_true, ec, maxW, hlenL, hM3, hM1, eo])).trans ?_
      refine (seq_nx (s := st.set k (tc (t + 1 + 1 + 1 + 2 + 1))) (e := [some (.d (.scr ns)), some (.c k), some (.d (.dct (encT [] T))), some (.d (.lst (encS N))), some (.d (.lst (encK ks))), some (.d (.str n)), some (.d (.lst (encS LK))), some (.d (.str other)), some (.d (.int y))]) (by
        have ev' : s_value [.d (.scr ns), .c k, .d (.str (Str.ofString "num"))] (st.set k (tc (t + 1 + 1 + 1))) = .ok (.d (.int z)) (st.set k (tc (t + 1 + 1 + 1 + 2))) := ev
        simp only [szs, fnM, rawM, seqM, ifM, tvM, truM, binM, unM, appM, consA, nilA, varM, conM, retM, retN, asgM, expM, raiseM, passS, callF, app1, app2, noExc, isExc_d, isExc_c, bindS_ok, bindS_err, bindS_stuck, Res.bind_ok, Res.bind_err, Res.bind_stuck, onBl_bl, andT, orT, notT, andV, orV, notV, tupM, lstM, toDs, toD, asD_d, asD_new, frzW_d, newT, newL, slM, slW, someO, noneO, ixW, addW, subW, mulW, modW, cmpW, negW, lenW, intW, tabW, isNonB, isNonW, isNon_d, List.map_cons, List.map_nil, List.length_cons, List.length_nil, List.replicate, List.append_nil, List.nil_append, List.cons_append, List.getElem?_cons_zero, List.getElem?_cons_succ, List.set_cons_zero, List.set_cons_succ, Nat.reduceAdd, Nat.reduceSub, if_true, if_false, ite_true, ite_false, Bool.not_true, Bool.not_false, Bool.and_true, Bool.and_false, Bool.false_eq_true, reduceIte, fin_same, finE_same, fin_new, atI_0, atI_1, atI_2, eqW_ofs, look_ofs, look_nil, dspC, newDc, inW, Option.isSome_some, Option.isSome_none, itM, forM, items_dl, items_dt, methL, methD, arg0, arg1, arg2, appendW, popW, listW, get_new, set_new, isLst_new, pow109, String.reduceBEq, String.reduceEq, Bool.false_or, Bool.true_or, Bool.or_false, Bool.or_true, ev', ed, ey])).trans ?_
      have happ : encR (vs.map Val.push) ++ [D.tup [.str "num", .int y], .tup [.str "if", .str n, .str other]] = encR (vs.map Val.push ++ [.plain (.num y), .iff n other]) := by simp [Rw.enc, Row.enc]
      have hsz : (encR (vs.map Val.push ++ [.plain (.num y), .iff n other])).length ≤ sizeLine := small (by rw [List.length_map, List.length_append, List.length_map]; simp; omega)
      simp only [szs, fnM, rawM, seqM, ifM, tvM, truM, binM, unM, appM, consA, nilA, varM, conM, retM, retN, asgM, expM, raiseM, passS, callF, app1, app2, noExc, isExc_d, isExc_c, bindS_ok, bindS_err, bindS_stuck, Res.bind_ok, Res.bind_err, Res.bind_stuck, onBl_bl, andT, orT, notT, andV, orV, notV, tupM, lstM, toDs, toD, asD_d, asD_new, frzW_d, newT, newL, slM, slW, someO, noneO, ixW, addW, subW, mulW, modW, cmpW, negW, lenW, intW, tabW, isNonB, isNonW, isNon_d, List.map_cons, List.map_nil, List.length_cons, List.length_nil, List.replicate, List.append_nil, List.nil_append, List.cons_append, List.getElem?_cons_zero, List.getElem?_cons_succ, List.set_cons_zero, List.set_cons_succ, Nat.reduceAdd, Nat.reduceSub, if_true, if_false, ite_true, ite_false, Bool.not_true, Bool.not_false, Bool.and_true, Bool.and_false, Bool.false_eq_true, reduceIte, fin_same, finE_same, fin_new, atI_0, atI_1, atI_2, eqW_ofs, look_ofs, look_nil, dspC, newDc, inW, Option.isSome_some, Option.isSome_none, itM, forM, items_dl, items_dt, methL, methD, arg0, arg1, arg2, appendW, popW, listW, get_new, set_new, isLst_new, pow109, String.reduceBEq, String.reduceEq, Bool.false_or, Bool.true_or, Bool.or_false, Bool.or_true, hlk, ep, happ, hsz]
end
end Py

namespace Py
open PySem L2
section
variable {st : Store} {k : Nat} (hk : k < st.length) (ns : List Int) {T : Td} (hT : TdOk T)
include hk hT
theorem fitting_ok (t : Int) (h0 : 0 ≤ t) (h1 : t ≤ 500000) (ks : List Kd) (hl : ks.length ≤ 100000) (N : List Str) (hN : ∀ n ∈ N, NmOk n ∧ ∃ io, lookA n T = some io) (hN2 : N.length ≤ 100) :
    ∃ (R : List Rw) (k' : List Kd) (t' : Int), (∀ r ∈ R, r.ok) ∧ R.length ≤ 62 ∧ runK (Tf T) ks R = some k' ∧ k'.length ≤ ks.length + 60 ∧ t ≤ t' ∧ t' ≤ t + 210 ∧
      s_fitting [.d (.scr ns), .c k, .d (.dct (encT [] T)), .d (.lst (encS N)), .d (.lst (encK ks))] (st.set k (tc t)) = .ok (.d (.lst (encR R))) (st.set k (tc t')) := by
  have hNl : ((encS N).length : Int) = (N.length : Int) := by rw [List.length_map]
  have fin2 : ∀ (R : List Rw) (t' : Int) , b_fitting [some (.d (.scr ns)), some (.c k), some (.d (.dct (encT [] T))), some (.d (.lst (encS N))), some (.d (.lst (encK ks))), none] (st.set k (tc t)) = .ret (.d (.lst (encR R))) (st.set k (tc t')) →
      s_fitting [.d (.scr ns), .c k, .d (.dct (encT [] T)), .d (.lst (encS N)), .d (.lst (encK ks))] (st.set k (tc t)) = .ok (.d (.lst (encR R))) (st.set k (tc t')) := fun R t' h => (fnM_ret rfl h).trans (fin_set2 _ _ _ _ _)
  -- what goes on behind the first test
  have tail : ∀ t2 : Int, t ≤ t2 → t2 ≤ t + 5 → ifM (andT (tvM (binM gtW (appM (app1 lenW) (consA (varM 3) nilA)) (conM (.int 0)))) (tvM (binM (eqW false) (callF s_draw (consA (varM 0) (consA (varM 1) (consA (conM (.int 3)) nilA)))) (conM (.int 0)))))
      (retM (callF s_choice (consA (varM 0) (consA (varM 1) (consA (varM 2) (consA (varM 3) (consA (varM 4) nilA))))))) passS [some (.d (.scr ns)), some (.c k), some (.d (.dct (encT [] T))), some (.d (.lst (encS N))), some (.d (.lst (encK ks))), none] (st.set k (tc t)) = .nx [some (.d (.scr ns)), some (.c k), some (.d (.dct (encT [] T))), some (.d (.lst (encS N))), some (.d (.lst (encK ks))), none] (st.set k (tc t2)) →
      ∃ (R : List Rw) (k' : List Kd) (t' : Int), (∀ r ∈ R, r.ok) ∧ R.length ≤ 62 ∧ runK (Tf T) ks R = some k' ∧ k'.length ≤ ks.length + 60 ∧ t ≤ t' ∧ t' ≤ t + 210 ∧
      s_fitting [.d (.scr ns), .c k, .d (.dct (encT [] T)), .d (.lst (encS N)), .d (.lst (encK ks))] (st.set k (tc t)) = .ok (.d (.lst (encR R))) (st.set k (tc t')) := fun t2 g0 g1 hst => by
    obtain ⟨r, t3, hr, r1, r2, er⟩ := plain_row_ok ns k t2 st hk (by omega) (by omega)
    have hla := lack_ok ks r.wants (st.set k (tc t3)) (by omega)
    have hwn := lwanted_ok r hr (st.set k (tc t3))
    have e2 : asgM 5 (callF s_plain_row (consA (varM 0) (consA (varM 1) nilA))) [some (.d (.scr ns)), some (.c k), some (.d (.dct (encT [] T))), some (.d (.lst (encS N))), some (.d (.lst (encK ks))), none] (st.set k (tc t2)) = .nx [some (.d (.scr ns)), some (.c k), some (.d (.dct (encT [] T))), some (.d (.lst (encS N))), some (.d (.lst (encK ks))), some (.d r.enc)] (st.set k (tc t3)) := by
      simp only [szs, fnM, rawM, seqM, ifM, tvM, truM, binM, unM, appM, consA, nilA, varM, conM, retM, retN, asgM, expM, raiseM, passS, callF, app1, app2, noExc, isExc_d, isExc_c, bindS_ok, bindS_err, bindS_stuck, Res.bind_ok, Res.bind_err, Res.bind_stuck, onBl_bl, andT, orT, notT, andV, orV, notV, tupM, lstM, toDs, toD, asD_d, asD_new, frzW_d, newT, newL, slM, slW, someO, noneO, ixW, addW, subW, mulW, modW, cmpW, negW, lenW, intW, tabW, isNonB, isNonW, isNon_d, List.map_cons, List.map_nil, List.length_cons, List.length_nil, List.replicate, List.append_nil, List.nil_append, List.cons_append, List.getElem?_cons_zero, List.getElem?_cons_succ, List.set_cons_zero, List.set_cons_succ, Nat.reduceAdd, Nat.reduceSub, if_true, if_false, ite_true, ite_false, Bool.not_true, Bool.not_false, Bool.and_true, Bool.and_false, Bool.false_eq_true, reduceIte, fin_same, finE_same, fin_new, atI_0, atI_1, atI_2, eqW_ofs, look_ofs, look_nil, dspC, newDc, inW, Option.isSome_some, Option.isSome_none, itM, forM, items_dl, items_dt, methL, methD, arg0, arg1, arg2, appendW, popW, listW, get_new, set_new, isLst_new, pow109, String.reduceBEq, String.reduceEq, Bool.false_or, Bool.true_or, Bool.or_false, Bool.or_true, er]
    by_cases q : need ks r.wants = none
    · rw [q] at hla
      refine ⟨[.plain r], plainK r ks, t3, fun x hx => by rw [List.mem_singleton] at hx; subst hx; exact hr, by simp, by simp only [runK, nextK, q], by have := plainK_len r ks; omega, by omega, by omega, fin2 _ _ ?_⟩
      unfold b_fitting
      rw [s_lack_2_is]
      refine (seq_nx hst).trans ((seq_nx e2).trans ?_)
      simp only [szs, fnM, rawM, seqM, ifM, tvM, truM, binM, unM, appM, consA, nilA, varM, conM, retM, retN, asgM, expM, raiseM, passS, callF, app1, app2, noExc, isExc_d, isExc_c, bindS_ok, bindS_err, bindS_stuck, Res.bind_ok, Res.bind_err, Res.bind_stuck, onBl_bl, andT, orT, notT, andV, orV, notV, tupM, lstM, toDs, toD, asD_d, asD_new, frzW_d, newT, newL, slM, slW, someO, noneO, ixW, addW, subW, mulW, modW, cmpW, negW, lenW, intW, tabW, isNonB, isNonW, isNon_d, List.map_cons, List.map_nil, List.length_cons, List.length_nil, List.replicate, List.append_nil, List.nil_append, List.cons_append, List.getElem?_cons_zero, List.getElem?_cons_succ, List.set_cons_zero, List.set_cons_succ, Nat.reduceAdd, Nat.reduceSub, if_true, if_false, ite_true, ite_false, Bool.not_true, Bool.not_false, Bool.and_true, Bool.and_false, Bool.false_eq_true, reduceIte, fin_same, finE_same, fin_new, atI_0, atI_1, atI_2, eqW_ofs, look_ofs, look_nil, dspC, newDc, inW, Option.isSome_some, Option.isSome_none, itM, forM, items_dl, items_dt, methL, methD, arg0, arg1, arg2, appendW, popW, listW, get_new, set_new, isLst_new, pow109, String.reduceBEq, String.reduceEq, Bool.false_or, Bool.true_or, Bool.or_false, Bool.or_true, hwn, hla, needS, Rw.enc]
    · have hq : (needS (need ks r.wants) == "") = false := by
        have := mt needS_none.mp q
        simpa using this
      obtain ⟨c, c0, c1, ec⟩ := draw2 ns k t3 2 st hk (by omega) (by omega) (by decide)
      obtain ⟨kd, ek⟩ := kdAt c c0 c1
      obtain ⟨vs, v1, v2, ev⟩ := pushes_ok ns k (t3 + 1) st hk (by omega) [kd] (by simp) (by omega) (.lst (encK [kd])) (.inl rfl)
      have hvl : vs.length = 1 := by have := congrArg List.length v1; rw [List.length_map] at this; simpa using this
      have ev' : s_pushes [.d (.scr ns), .c k, .d (.lst [kd.enc])] (st.set k (tc (t3 + 1))) = .ok (.d (.lst (encR (vs.map Val.push)))) (st.set k (tc (t3 + 1 + 2))) := ev
      refine ⟨vs.map Val.push, ks ++ [kd], t3 + 1 + 2, fun r hr => by obtain ⟨v, hv', rfl⟩ := List.mem_map.mp hr; exact push_okr (v2 v hv'), by rw [List.length_map]; omega, by rw [push_run, v1], by rw [List.length_append, List.length_singleton]; omega, by omega, by omega, fin2 _ _ ?_⟩
      unfold b_fitting
      rw [s_lack_2_is]
      refine (seq_nx hst).trans ((seq_nx e2).trans ?_)
      refine (seq_nx (s := st.set k (tc t3)) (e := [some (.d (.scr ns)), some (.c k), some (.d (.dct (encT [] T))), some (.d (.lst (encS N))), some (.d (.lst (encK ks))), some (.d r.enc)]) (by simp only [szs, fnM, rawM, seqM, ifM, tvM, truM, binM, unM, appM, consA, nilA, varM, conM, retM, retN, asgM, expM, raiseM, passS, callF, app1, app2, noExc, isExc_d, isExc_c, bindS_ok, bindS_err, bindS_stuck, Res.bind_ok, Res.bind_err, Res.bind_stuck, onBl_bl, andT, orT, notT, andV, orV, notV, tupM, lstM, toDs, toD, asD_d, asD_new, frzW_d, newT, newL, slM, slW, someO, noneO, ixW, addW, subW, mulW, modW, cmpW, negW, lenW, intW, tabW, isNonB, isNonW, isNon_d, List.map_cons, List.map_nil, List.length_cons, List.length_nil, List.replicate, List.append_nil, List.nil_append, List.cons_append, List.getElem?_cons_zero, List.getElem?_cons_succ, List.set_cons_zero, List.set_cons_succ, Nat.reduceAdd, Nat.reduceSub, if_true, if_false, ite_true, ite_false, Bool.not_true, Bool.not_false, Bool.and_true, Bool.and_false, Bool.false_eq_true, reduceIte, fin_same, finE_same, fin_new, atI_0, atI_1, atI_2, eqW_ofs, look_ofs, look_nil, dspC, newDc, inW, Option.isSome_some, Option.isSome_none, itM, forM, items_dl, items_dt, methL, methD, arg0, arg1, arg2, appendW, popW, listW, get_new, set_new, isLst_new, pow109, String.reduceBEq, String.reduceEq, Bool.false_or, Bool.true_or, Bool.or_false, Bool.or_true, hwn, hla, hq])).trans ?_
      simp only [szs, fnM, rawM, seqM, ifM, tvM, truM, binM, unM, appM, consA, nilA, varM, conM, retM, retN, asgM, expM, raiseM, passS, callF, app1, app2, noExc, isExc_d, isExc_c, bindS_ok, bindS_err, bindS_stuck, Res.bind_ok, Res.bind_err, Res.bind_stuck, onBl_bl, andT, orT, notT, andV, orV, notV, tupM, lstM, toDs, toD, asD_d, asD_new, frzW_d, newT, newL, slM, slW, someO, noneO, ixW, addW, subW, mulW, modW, cmpW, negW, lenW, intW, tabW, isNonB, isNonW, isNon_d, List.map_cons, List.map_nil, List.length_cons, List.length_nil, List.replicate, List.append_nil, List.nil_append, List.cons_append, List.getElem?_cons_zero, List.getElem?_cons_succ, List.set_cons_zero, List.set_cons_succ, Nat.reduceAdd, Nat.reduceSub, if_true, if_false, ite_true, ite_false, Bool.not_true, Bool.not_false, Bool.and_true, Bool.and_false, Bool.false_eq_true, reduceIte, fin_same, finE_same, fin_new, atI_0, atI_1, atI_2, eqW_ofs, look_ofs, look_nil, dspC, newDc, inW, Option.isSome_some, Option.isSome_none, itM, forM, items_dl, items_dt, methL, methD, arg0, arg1, arg2, appendW, popW, listW, get_new, set_new, isLst_new, pow109, String.reduceBEq, String.reduceEq, Bool.false_or, Bool.true_or, Bool.or_false, Bool.or_true, ec, ek, ev']
  by_cases hn : (N.length : Int) > 0
  · obtain ⟨a, a0, a1, ea⟩ := draw2 ns k t 3 st hk h0 (by omega) (by decide)
    by_cases ha : a = 0
    · subst ha
      obtain ⟨R, k', t', r1, r2, r3, r4, r5, r6, er⟩ := choice_ok hk ns hT (t + 1) (by omega) (by omega) ks hl N hN (by omega) hN2
      refine ⟨R, k', t', r1, r2, r3, r4, by omega, by omega, fin2 _ _ ?_⟩
      unfold b_fitting
      refine seq_ret ((if_t (s := st.set k (tc (t + 1))) (by simp only [szs, fnM, rawM, seqM, ifM, tvM, truM, binM, unM, appM, consA, nilA, varM, conM, retM, retN, asgM, expM, raiseM, passS, callF, app1, app2, noExc, isExc_d, isExc_c, bindS_ok, bindS_err, bindS_stuck, Res.bind_ok, Res.bind_err, Res.bind_stuck, onBl_bl, andT, orT, notT, andV, orV, notV, tupM, lstM, toDs, toD, asD_d, asD_new, frzW_d, newT, newL, slM, slW, someO, noneO, ixW, addW, subW, mulW, modW, cmpW, negW, lenW, intW, tabW, isNonB, isNonW, isNon_d, List.map_cons, List.map_nil, List.length_cons, List.length_nil, List.replicate, List.append_nil, List.nil_append, List.cons_append, List.getElem?_cons_zero, List.getElem?_cons_succ, List.set_cons_zero, List.set_cons_succ, Nat.reduceAdd, Nat.reduceSub, if_true, if_false, ite_true, ite_false, Bool.not_true, Bool.not_false, Bool.and_true, Bool.and_false, Bool.false_eq_true, reduceIte, fin_same, finE_same, fin_new, atI_0, atI_1, atI_2, eqW_ofs, look_ofs, look_nil, dspC, newDc, inW, Option.isSome_some, Option.isSome_none, itM, forM, items_dl, items_dt, methL, methD, arg0, arg1, arg2, appendW, popW, listW, get_new, set_new, isLst_new, pow109, String.reduceBEq, String.reduceEq, Bool.false_or, Bool.true_or, Bool.or_false, Bool.or_true, gtW, hNl, hn, decide_true, ea, eqW_int, beq_self_eq_true])).trans ?_)
      simp only [szs, fnM, rawM, seqM, ifM, tvM, truM, binM, unM, appM, consA, nilA, varM, conM, retM, retN, asgM, expM, raiseM, passS, callF, app1, app2, noExc, isExc_d, isExc_c, bindS_ok, bindS_err, bindS_stuck, Res.bind_ok, Res.bind_err, Res.bind_stuck, onBl_bl, andT, orT, notT, andV, orV, notV, tupM, lstM, toDs, toD, asD_d, asD_new, frzW_d, newT, newL, slM, slW, someO, noneO, ixW, addW, subW, mulW, modW, cmpW, negW, lenW, intW, tabW, isNonB, isNonW, isNon_d, List.map_cons, List.map_nil, List.length_cons, List.length_nil, List.replicate, List.append_nil, List.nil_append, List.cons_append, List.getElem?_cons_zero, List.getElem?_cons_succ, List.set_cons_zero, List.set_cons_succ, Nat.reduceAdd, Nat.reduceSub, if_true, if_false, ite_true, ite_false, Bool.not_true, Bool.not_false, Bool.and_true, Bool.and_false, Bool.false_eq_true, reduceIte, fin_same, finE_same, fin_new, atI_0, atI_1, atI_2, eqW_ofs, look_ofs, look_nil, dspC, newDc, inW, Option.isSome_some, Option.isSome_none, itM, forM, items_dl, items_dt, methL, methD, arg0, arg1, arg2, appendW, popW, listW, get_new, set_new, isLst_new, pow109, String.reduceBEq, String.reduceEq, Bool.false_or, Bool.true_or, Bool.or_false, Bool.or_true, er]
    · have ha' : (a == 0) = false := by simpa using ha
      exact tail (t + 1) (by omega) (by omega) (by simp only [szs, fnM, rawM, seqM, ifM, tvM, truM, binM, unM, appM, consA, nilA, varM, conM, retM, retN, asgM, expM, raiseM, passS, callF, app1, app2, noExc, isExc_d, isExc_c, bindS_ok, bindS_err, bindS_stuck, Res.bind_ok, Res.bind_err, Res.bind_stuck, onBl_bl, andT, orT, notT, andV, orV, notV, tupM, lstM, toDs, toD, asD_d, asD_new, frzW_d, newT, newL, slM, slW, someO, noneO, ixW, addW, subW, mulW, modW, cmpW, negW, lenW, intW, tabW, isNonB, isNonW, isNon_d, List.map_cons, List.map_nil, List.length_cons, List.length_nil, List.replicate, List.append_nil, List.nil_append, List.cons_append, List.getElem?_cons_zero, List.getElem?_cons_succ, List.set_cons_zero, List.set_cons_succ, Nat.reduceAdd, Nat.reduceSub, if_true, if_false, ite_true, ite_false, Bool.not_true, Bool.not_false, Bool.and_true, Bool.and_false, Bool.false_eq_true, reduceIte, fin_same, finE_same, fin_new, atI_0, atI_1, atI_2, eqW_ofs, look_ofs, look_nil, dspC, newDc, inW, Option.isSome_some, Option.isSome_none, itM, forM, items_dl, items_dt, methL, methD, arg0, arg1, arg2, appendW, popW, listW, get_new, set_new, isLst_new, pow109, String.reduceBEq, String.reduceEq, Bool.false_or, Bool.true_or, Bool.or_false, Bool.or_true, gtW, hNl, hn, decide_true, ea, eqW_int, ha'])
  · have hn' : decide ((N.length : Int) > 0) = false := decide_eq_false hn
    exact tail t (by omega) (by omega) (by simp only [szs, fnM, rawM, seqM, ifM, tvM, truM, binM, unM, appM, consA, nilA, varM, conM, retM, retN, asgM, expM, raiseM, passS, callF, app1, app2, noExc, isExc_d, isExc_c, bindS_ok, bindS_err, bindS_stuck, Res.bind_ok, Res.bind_err, Res.bind_stuck, onBl_bl, andT, orT, notT, andV, orV, notV, tupM, lstM, toDs, toD, asD_d, asD_new, frzW_d, newT, newL, slM, slW, someO, noneO, ixW, addW, subW, mulW, modW, cmpW, negW, lenW, intW, tabW, isNonB, isNonW, isNon_d, List.map_cons, List.map_nil, List.length_cons, List.length_nil, List.replicate, List.append_nil, List.nil_append, List.cons_append, List.getElem?_cons_zero, List.getElem?_cons_succ, List.set_cons_zero, List.set_cons_succ, Nat.reduceAdd, Nat.reduceSub, if_true, if_false, ite_true, ite_false, Bool.not_true, Bool.not_false, Bool.and_true, Bool.and_false, Bool.false_eq_true, reduceIte, fin_same, finE_same, fin_new, atI_0, atI_1, atI_2, eqW_ofs, look_ofs, look_nil, dspC, newDc, inW, Option.isSome_some, Option.isSome_none, itM, forM, items_dl, items_dt, methL, methD, arg0, arg1, arg2, appendW, popW, listW, get_new, set_new, isLst_new, pow109, String.reduceBEq, String.reduceEq, Bool.false_or, Bool.true_or, Bool.or_false, Bool.or_true, gtW, hNl, hn'])
end
/-! ### rows that take all off -/
abbrev dropR : Rw := .plain (.op .drop)
theorem drop_next (f : Tl) (ks : List Kd) (a : Kd) : nextK f (ks ++ [a]) dropR = .ok ks := by
  have h : need (ks ++ [a]) [none] = none := by
    unfold need
    rw [List.length_append, List.length_singleton, List.length_singleton, if_neg (by omega), show ks.length + 1 - 1 = ks.length by omega, List.drop_left]
    simp [bad]
  simp only [nextK, Row.wants, Op.wants, h, plainK, Op.puts, List.append_nil]
  simp
theorem drops_run (f : Tl) : ∀ (n : Nat) (us ks : List Kd), us.length = n → runK f (ks ++ us) (List.replicate n dropR) = some ks
  | 0, us, ks, h => by
    have : us = [] := List.length_eq_zero_iff.mp h
    subst this; simp [runK]
  | n + 1, us, ks, h => by
    have hne : us ≠ [] := fun e => by subst e; cases h
    rw [← List.dropLast_concat_getLast hne, ← List.append_assoc, List.replicate_succ]
    simp only [runK, drop_next]
    exact drops_run f n us.dropLast ks (by rw [List.length_dropLast]; omega)
abbrev RSt (st : Store) (k : Nat) (rows : List Rw) (t : Int) : Store := (st ++ [Cell.lst (encR rows)]).set k (tc t)
theorem fin_dat {st e : Store} {k : Nat} {t t' : Int} {x : D} (hk : k < st.length) : fin (st.set k (tc t)) (.d x) ((st ++ e).set k (tc t')) = .ok (.d x) (st.set k (tc t')) := by
  have e1 : (st ++ e).set k (tc t') = st.set k (tc t') ++ e := by rw [List.set_append_left _ _ hk]
  unfold fin
  rw [if_pos]
  · simp only [List.length_set]
    rw [e1, List.take_left' (by simp)]
  · refine ⟨by rw [List.length_set, List.length_set, List.length_append]; omega, fun i fs hi h => ?_⟩
    rw [List.length_set] at hi
    rw [List.getElem?_set] at h ⊢
    split at h
    · split at h <;> cases h
    · rename_i hne
      rw [if_neg hne]
      rwa [List.getElem?_append_left hi] at h
section
variable {st : Store} {k : Nat} (hk : k < st.length) (ns : List Int)
include hk
theorem pushR (i : Nat) (e : M W) (env : Env) (rows : List Rw) (t t' : Int) (r : Rw) (hl : rows.length ≤ 900000) (hx : env[i]? = some (some (.c st.length))) (he : e env (RSt st k rows t) = .ok (.d r.enc) (RSt st k rows t')) :
    expM (methL (arg1 appendW) (varM i) (consA e nilA)) env (RSt st k rows t) = .nx env (RSt st k (rows ++ [r]) t') := by
  have sL : (encR rows).length < sizeLine := lt_line (by rw [List.length_map]; omega)
  have ee : encR rows ++ [r.enc] = encR (rows ++ [r]) := by simp
  simp only [szs, fnM, rawM, seqM, ifM, tvM, truM, binM, unM, appM, consA, nilA, varM, conM, retM, retN, asgM, expM, raiseM, passS, callF, app1, app2, noExc, isExc_d, isExc_c, bindS_ok, bindS_err, bindS_stuck, Res.bind_ok, Res.bind_err, Res.bind_stuck, onBl_bl, andT, orT, notT, andV, orV, notV, tupM, lstM, toDs, toD, asD_d, asD_new, frzW_d, newT, newL, slM, slW, someO, noneO, ixW, addW, subW, mulW, modW, cmpW, negW, lenW, intW, tabW, isNonB, isNonW, isNon_d, List.map_cons, List.map_nil, List.length_cons, List.length_nil, List.replicate, List.append_nil, List.nil_append, List.cons_append, List.getElem?_cons_zero, List.getElem?_cons_succ, List.set_cons_zero, List.set_cons_succ, Nat.reduceAdd, Nat.reduceSub, if_true, if_false, ite_true, ite_false, Bool.not_true, Bool.not_false, Bool.and_true, Bool.and_false, Bool.false_eq_true, reduceIte, fin_same, finE_same, fin_new, atI_0, atI_1, atI_2, eqW_ofs, look_ofs, look_nil, dspC, newDc, inW, Option.isSome_some, Option.isSome_none, itM, forM, items_dl, items_dt, methL, methD, arg0, arg1, arg2, appendW, popW, listW, get_new, set_new, isLst_new, pow109, String.reduceBEq, String.reduceEq, Bool.false_or, Bool.true_or, Bool.or_false, Bool.or_true, hx, pl hk, he, pg hk, sL, ps hk, ee]
end
end Py

namespace Py
open PySem L2
theorem resD_ok (k2 ks : List Kd) : resD k2 (.ok ks) = .tup [.str "", .lst (encK ks)] := rfl
section
variable {st : Store} {k : Nat} (hk : k < st.length) (ns : List Int) {T : Td} (hT : TdOk T)
include hk
/-- the environment of good_rows, within its loops -/
abbrev GE (ns : List Int) (k : Nat) (T : Td) (n : Str) (N : List Str) (i o kk : List Kd) (j : Nat) (x9 x10 x11 x12 : Option W) : Env :=
  [some (.d (.scr ns)), some (.c k), some (.d (.dct (encT [] T))), some (.d (.str n)), some (.d (.lst (encS N))), some (.d (.tup (encK i))), some (.d (.tup (encK o))), some (.d (.lst (encK kk))), some (.c j), x9, x10, x11, x12]
noncomputable abbrev gInner : MS := (seqM (asgM 7 (binM ixW (callF s_next (consA (varM 2) (consA (varM 7) (consA (varM 10) nilA)))) (conM (.int 1))))
  (expM (methL (arg1 appendW) (varM 8) (consA (varM 10) nilA))))
include hT
theorem inner_ok (n : Str) (N : List Str) (i o : List Kd) (t : Int) (x9 x11 x12 : Option W) (R : List Rw) (kk k' : List Kd) (rows : List Rw) (x10 : Option W) (hR : ∀ r ∈ R, r.ok) (hl : kk.length + 60 * R.length ≤ 300000) (hrl : rows.length + R.length ≤ 900000) (hrun : runK (Tf T) kk R = some k') :
    ∃ y10, loopS (.name 10) gInner (encR R) (GE ns k T n N i o kk st.length x9 x10 x11 x12) (RSt st k rows t) = .nx (GE ns k T n N i o k' st.length x9 y10 x11 x12) (RSt st k (rows ++ R) t) := by
  obtain ⟨env', st', e, us, q, done, y10, p1, p2, p3, p4, p5, p6⟩ := loop_inv (t := .name 10) (body := gInner)
    (fun ys env s => ∃ (us : List Rw) (q : List Kd) (done : List Rw) (y10 : Option W), ys = encR us ∧ done ++ us = R ∧ q.length + 60 * us.length ≤ 300000 ∧ runK (Tf T) q us = some k' ∧ env = GE ns k T n N i o q st.length x9 y10 x11 x12 ∧ s = RSt st k (rows ++ done) t)
    (encR R) (GE ns k T n N i o kk st.length x9 x10 x11 x12) (RSt st k rows t)
    (fun y ys env s ⟨us, q, done, y10, p1, p2, p3, p4, p5, p6⟩ => by
      subst p5 p6
      cases us with
      | nil => cases p1
      | cons r us =>
        obtain ⟨rfl, rfl⟩ := List.cons.inj p1
        simp only [List.length_cons] at p3
        have hr : r.ok := hR r (by rw [← p2]; simp)
        obtain ⟨k2, en⟩ := next_ok (.d (.dct (encT [] T))) _ (Tf T) q r (RSt st k (rows ++ done) t) rfl (sees_T [] T) hT.small hr (by omega)
        simp only [runK] at p4
        cases qn : nextK (Tf T) q r with
        | error e => rw [qn] at p4; cases p4
        | ok q2 =>
          rw [qn] at p4 en
          have hq2 := nextK_len2 hT.small qn
          have hdl : done.length ≤ R.length := by rw [← p2, List.length_append]; omega
          rw [resD_ok] at en
          refine ⟨_, GE ns k T n N i o q2 st.length x9 (some (.d r.enc)) x11 x12, RSt st k (rows ++ done ++ [r]) t, rfl, ?_, us, q2, done ++ [r], _, rfl, by rw [← p2]; simp, by omega, p4, rfl, by rw [List.append_assoc]⟩
          refine (seq_nx (e := GE ns k T n N i o q2 st.length x9 (some (.d r.enc)) x11 x12) (s := RSt st k (rows ++ done) t) ?_).trans (pushR hk 8 _ _ (rows ++ done) t t r (by rw [List.length_append]; omega) rfl (by simp only [szs, fnM, rawM, seqM, ifM, tvM, truM, binM, unM, appM, consA, nilA, varM, conM, retM, retN, asgM, expM, raiseM, passS, callF, app1, app2, noExc, isExc_d, isExc_c, bindS_ok, bindS_err, bindS_stuck, Res.bind_ok, Res.bind_err, Res.bind_stuck, onBl_bl, andT, orT, notT, andV, orV, notV, tupM, lstM, toDs, toD, asD_d, asD_new, frzW_d, newT, newL, slM, slW, someO, noneO, ixW, addW, subW, mulW, modW, cmpW, negW, lenW, intW, tabW, isNonB, isNonW, isNon_d, List.map_cons, List.map_nil, List.length_cons, List.length_nil, List.replicate, List.append_nil, List.nil_append, List.cons_append, List.getElem?_cons_zero, List.getElem?_cons_succ, List.set_cons_zero, List.set_cons_succ, Nat.reduceAdd, Nat.reduceSub, if_true, if_false, ite_true, ite_false, Bool.not_true, Bool.not_false, Bool.and_true, Bool.and_false, Bool.false_eq_true, reduceIte, fin_same, finE_same, fin_new, atI_0, atI_1, atI_2, eqW_ofs, look_ofs, look_nil, dspC, newDc, inW, Option.isSome_some, Option.isSome_none, itM, forM, items_dl, items_dt, methL, methD, arg0, arg1, arg2, appendW, popW, listW, get_new, set_new, isLst_new, pow109, String.reduceBEq, String.reduceEq, Bool.false_or, Bool.true_or, Bool.or_false, Bool.or_true]))
          simp only [szs, fnM, rawM, seqM, ifM, tvM, truM, binM, unM, appM, consA, nilA, varM, conM, retM, retN, asgM, expM, raiseM, passS, callF, app1, app2, noExc, isExc_d, isExc_c, bindS_ok, bindS_err, bindS_stuck, Res.bind_ok, Res.bind_err, Res.bind_stuck, onBl_bl, andT, orT, notT, andV, orV, notV, tupM, lstM, toDs, toD, asD_d, asD_new, frzW_d, newT, newL, slM, slW, someO, noneO, ixW, addW, subW, mulW, modW, cmpW, negW, lenW, intW, tabW, isNonB, isNonW, isNon_d, List.map_cons, List.map_nil, List.length_cons, List.length_nil, List.replicate, List.append_nil, List.nil_append, List.cons_append, List.getElem?_cons_zero, List.getElem?_cons_succ, List.set_cons_zero, List.set_cons_succ, Nat.reduceAdd, Nat.reduceSub, if_true, if_false, ite_true, ite_false, Bool.not_true, Bool.not_false, Bool.and_true, Bool.and_false, Bool.false_eq_true, reduceIte, fin_same, finE_same, fin_new, atI_0, atI_1, atI_2, eqW_ofs, look_ofs, look_nil, dspC, newDc, inW, Option.isSome_some, Option.isSome_none, itM, forM, items_dl, items_dt, methL, methD, arg0, arg1, arg2, appendW, popW, listW, get_new, set_new, isLst_new, pow109, String.reduceBEq, String.reduceEq, Bool.false_or, Bool.true_or, Bool.or_false, Bool.or_true, en])
    ⟨R, kk, [], x10, rfl, rfl, hl, hrun, rfl, by simp⟩
  have hus : us = [] := by
    cases us with
    | nil => rfl
    | cons _ _ => cases p1
  subst hus p5 p6
  simp only [runK, Option.some.injEq] at p4
  rw [List.append_nil] at p2
  subst p4 p2
  exact ⟨y10, e⟩
noncomputable abbrev gOuter : MS := (forM (itM (callF s_fitting (consA (varM 0) (consA (varM 1) (consA (varM 2) (consA (varM 4) (consA (varM 7) nilA))))))) (.name 10) gInner)
theorem outer_ok (n : Str) (N : List Str) (hN : ∀ n ∈ N, NmOk n ∧ ∃ io, lookA n T = some io) (hN2 : N.length ≤ 100) (i o : List Kd) (hi : i.length ≤ 60) (m : Nat) (hm : m ≤ 5) (t : Int) (h0 : 0 ≤ t) (h1 : t ≤ 400000) :
    ∃ (rows : List Rw) (kk : List Kd) (t' : Int) (y9 y10 : Option W), runK (Tf T) i rows = some kk ∧ (∀ r ∈ rows, r.ok) ∧ rows.length ≤ 310 ∧ kk.length ≤ 360 ∧ t ≤ t' ∧ t' ≤ t + 1050 ∧
      loopS (.name 9) gOuter (uptoD m) (GE ns k T n N i o i st.length none none none none) (RSt st k [] t) = .nx (GE ns k T n N i o kk st.length y9 y10 none none) (RSt st k rows t') := by
  obtain ⟨env', st', e, rows, kk, t', y9, y10, p1, p2, p3, p4, p5, p6, p7⟩ := loop_inv (t := .name 9) (body := gOuter)
    (fun ys env s => ∃ (rows : List Rw) (kk : List Kd) (t' : Int) (y9 y10 : Option W), runK (Tf T) i rows = some kk ∧ (∀ r ∈ rows, r.ok) ∧ rows.length + 62 * ys.length ≤ 310 ∧ kk.length + 60 * ys.length ≤ 360 ∧ (t ≤ t' ∧ t' + 210 * ys.length ≤ t + 1050) ∧ env = GE ns k T n N i o kk st.length y9 y10 none none ∧ s = RSt st k rows t')
    (uptoD m) (GE ns k T n N i o i st.length none none none none) (RSt st k [] t)
    (fun y ys env s ⟨rows, kk, t', y9, y10, p1, p2, p3, p4, p5, p6, p7⟩ => by
      subst p6 p7
      simp only [List.length_cons] at p3 p4 p5
      obtain ⟨R, k', t2, r1, r2, r3, r4, r5, r6, er⟩ := fitting_ok (st := st ++ [Cell.lst (encR rows)]) (k := k) (by rw [List.length_append]; omega) ns hT t' (by omega) (by omega) kk (by omega) N hN hN2
      obtain ⟨z10, ei⟩ := inner_ok hk ns hT n N i o t2 (some (.d y)) none none R kk k' rows y10 r1 (by omega) (by omega) r3
      refine ⟨_, _, _, rfl, ?_, rows ++ R, k', t2, some (.d y), z10, by rw [runK_app p1]; exact r3, ?_, by rw [List.length_append]; omega, by omega, ⟨by omega, by omega⟩, rfl, rfl⟩
      · have e1 : itM (callF s_fitting (consA (varM 0) (consA (varM 1) (consA (varM 2) (consA (varM 4) (consA (varM 7) nilA)))))) ((GE ns k T n N i o kk st.length y9 y10 none none).set 9 (some (.d y))) (RSt st k rows t') = .ok (encR R) (RSt st k rows t2) := by
          simp only [szs, fnM, rawM, seqM, ifM, tvM, truM, binM, unM, appM, consA, nilA, varM, conM, retM, retN, asgM, expM, raiseM, passS, callF, app1, app2, noExc, isExc_d, isExc_c, bindS_ok, bindS_err, bindS_stuck, Res.bind_ok, Res.bind_err, Res.bind_stuck, onBl_bl, andT, orT, notT, andV, orV, notV, tupM, lstM, toDs, toD, asD_d, asD_new, frzW_d, newT, newL, slM, slW, someO, noneO, ixW, addW, subW, mulW, modW, cmpW, negW, lenW, intW, tabW, isNonB, isNonW, isNon_d, List.map_cons, List.map_nil, List.length_cons, List.length_nil, List.replicate, List.append_nil, List.nil_append, List.cons_append, List.getElem?_cons_zero, List.getElem?_cons_succ, List.set_cons_zero, List.set_cons_succ, Nat.reduceAdd, Nat.reduceSub, if_true, if_false, ite_true, ite_false, Bool.not_true, Bool.not_false, Bool.and_true, Bool.and_false, Bool.false_eq_true, reduceIte, fin_same, finE_same, fin_new, atI_0, atI_1, atI_2, eqW_ofs, look_ofs, look_nil, dspC, newDc, inW, Option.isSome_some, Option.isSome_none, itM, forM, items_dl, items_dt, methL, methD, arg0, arg1, arg2, appendW, popW, listW, get_new, set_new, isLst_new, pow109, String.reduceBEq, String.reduceEq, Bool.false_or, Bool.true_or, Bool.or_false, Bool.or_true, er]
        show forM _ _ _ _ _ = _
        unfold forM
        rw [e1]
        exact ei
      · intro r hr
        rcases List.mem_append.mp hr with h | h
        · exact p2 r h
        · exact r1 r h)
    ⟨[], i, t, none, none, rfl, by simp, by simp [uptoD]; omega, by simp [uptoD]; omega, ⟨by omega, by simp [uptoD]; omega⟩, rfl, rfl⟩
  subst p6 p7
  simp only [List.length_nil] at p3 p4 p5
  exact ⟨rows, kk, t', y9, y10, p1, p2, by omega, by omega, by omega, by omega, e⟩
end
end Py

namespace Py
open PySem L2
theorem whileM_succ (c : M Bool) (b : MS) (n : Nat) (env : Env) (st : Store) : whileM c b (n + 1) env st = bindS (c env st) env fun t s1 => if t = true then (match b env s1 with
    | .nx env' st' => whileM c b n env' st'
    | r => r) else .nx env s1 := rfl
theorem reps_nat (n : Nat) (d : D) : reps (n : Int) [d] = List.replicate n d := by
  cases n with
  | zero => rfl
  | succ k => have := reps_one k d; rw [← this]; rfl
noncomputable abbrev gWc : M Bool := (tvM (binM (eqW true) (appM (app1 tupleW) (consA (varM 7) nilA)) (slM false (varM 6) noneO (someO (appM (app1 lenW) (consA (varM 7) nilA))))))
noncomputable abbrev gWb : MS := (seqM (asgM 7 (slM false (varM 7) noneO (someO (unM negW (conM (.int 1))))))
  (expM (methL (arg1 appendW) (varM 8) (consA (tupM (consA (conM (.str "drop")) nilA)) nilA))))
noncomputable abbrev gLast : MS := (retM (binM (addW false) (varM 8) (callF s_pushes (consA (varM 0) (consA (varM 1) (consA (slM false (varM 6) (someO (appM (app1 lenW) (consA (varM 7) nilA))) noneO) nilA))))))
noncomputable abbrev gFin : MS := (seqM (asgM 12 (binM ixW (varM 11) (binM modW (callF s_draw (consA (varM 0) (consA (varM 1) (consA (conM (.int 1000)) nilA)))) (appM (app1 lenW) (consA (varM 11) nilA)))))
  (seqM (asgM 8 (binM (addW true) (varM 8) (binM (mulW false) (lstM false (consA (tupM (consA (conM (.str "drop")) nilA)) nilA)) (appM (app1 lenW) (consA (varM 7) nilA)))))
  (retM (binM (addW false) (binM (addW false) (varM 8) (callF s_pushes (consA (varM 0) (consA (varM 1) (consA (binM ixW (binM ixW (varM 2) (varM 12)) (conM (.int 0))) nilA))))) (lstM false (consA (tupM (consA (conM (.str "call")) (consA (varM 12) nilA))) nilA))))))
section
variable {st : Store} {k : Nat} (hk : k < st.length) (ns : List Int) {T : Td} (hT : TdOk T)
include hk hT
theorem gcond_ok (n : Str) (N : List Str) (i o : List Kd) (t : Int) (x9 x10 x11 x12 : Option W) (hol : o.length ≤ 60) (kk : List Kd) (rows : List Rw) (hb : kk.length ≤ 200000) :
    gWc (GE ns k T n N i o kk st.length x9 x10 x11 x12) (RSt st k rows t) = .ok (!(decide (kk = o.take kk.length))) (RSt st k rows t) := by
  have hlen : ((encK kk).length : Int) = ((kk.length : Nat) : Int) := by rw [List.length_map]
  have hct : cut (encK o) none (some (kk.length : Int)) = encK (o.take kk.length) := by rw [cut_to]; simp
  have hz1 : (encK kk).length ≤ sizeLine := small (by rw [List.length_map]; omega)
  have hz2 : (encK (o.take kk.length)).length ≤ sizeLine := small (by rw [List.length_map, List.length_take]; omega)
  simp only [szs, fnM, rawM, seqM, ifM, tvM, truM, binM, unM, appM, consA, nilA, varM, conM, retM, retN, asgM, expM, raiseM, passS, callF, app1, app2, noExc, isExc_d, isExc_c, bindS_ok, bindS_err, bindS_stuck, Res.bind_ok, Res.bind_err, Res.bind_stuck, onBl_bl, andT, orT, notT, andV, orV, notV, tupM, lstM, toDs, toD, asD_d, asD_new, frzW_d, newT, newL, slM, slW, someO, noneO, ixW, addW, subW, mulW, modW, cmpW, negW, lenW, intW, tabW, isNonB, isNonW, isNon_d, List.map_cons, List.map_nil, List.length_cons, List.length_nil, List.replicate, List.append_nil, List.nil_append, List.cons_append, List.getElem?_cons_zero, List.getElem?_cons_succ, List.set_cons_zero, List.set_cons_succ, Nat.reduceAdd, Nat.reduceSub, if_true, if_false, ite_true, ite_false, Bool.not_true, Bool.not_false, Bool.and_true, Bool.and_false, Bool.false_eq_true, reduceIte, fin_same, finE_same, fin_new, atI_0, atI_1, atI_2, eqW_ofs, look_ofs, look_nil, dspC, newDc, inW, Option.isSome_some, Option.isSome_none, itM, forM, items_dl, items_dt, methL, methD, arg0, arg1, arg2, appendW, popW, listW, get_new, set_new, isLst_new, pow109, String.reduceBEq, String.reduceEq, Bool.false_or, Bool.true_or, Bool.or_false, Bool.or_true, tupleW, hz1, hlen, hct, hz2, eqW_K]
theorem gwhile_ok (n : Str) (N : List Str) (i o : List Kd) (t : Int) (x9 x10 x11 x12 : Option W) (hol : o.length ≤ 60) : ∀ (m : Nat) (kk : List Kd) (rows : List Rw) (fuel : Nat), kk.length = m → m < fuel → rows.length + m ≤ 800000 → m ≤ 100000 →
    ∃ (kk' us : List Kd), kk = kk' ++ us ∧ o.take kk'.length = kk' ∧ whileM gWc gWb fuel (GE ns k T n N i o kk st.length x9 x10 x11 x12) (RSt st k rows t) = .nx (GE ns k T n N i o kk' st.length x9 x10 x11 x12) (RSt st k (rows ++ List.replicate us.length dropR) t) := by
  intro m
  induction m with
  | zero =>
    intro kk rows fuel hm hf hr _
    obtain ⟨f, rfl⟩ : ∃ f, fuel = f + 1 := ⟨fuel - 1, by omega⟩
    have : kk = [] := List.length_eq_zero_iff.mp hm
    subst this
    refine ⟨[], [], rfl, rfl, ?_⟩
    rw [whileM_succ, gcond_ok hk ns hT n N i o t x9 x10 x11 x12 hol [] rows (by simp)]
    simp
  | succ m ih =>
    intro kk rows fuel hm hf hr hb
    obtain ⟨f, rfl⟩ : ∃ f, fuel = f + 1 := ⟨fuel - 1, by omega⟩
    rw [whileM_succ, gcond_ok hk ns hT n N i o t x9 x10 x11 x12 hol kk rows (by omega)]
    by_cases q : kk = o.take kk.length
    · refine ⟨kk, [], by simp, q.symm, ?_⟩
      rw [decide_eq_true q]
      simp
    · have hne : kk ≠ [] := fun h => by subst h; cases hm
      obtain ⟨us, a, rfl⟩ : ∃ us a, kk = us ++ [a] := ⟨kk.dropLast, kk.getLast hne, (List.dropLast_concat_getLast hne).symm⟩
      rw [List.length_append, List.length_singleton] at hm
      have sz : (encK us).length ≤ sizeLine := small (by rw [List.length_map]; omega)
      obtain ⟨kk', vs, p1, p2, p3⟩ := ih us (rows ++ [dropR]) f (by omega) (by omega) (by rw [List.length_append, List.length_singleton]; omega) (by omega)
      refine ⟨kk', vs ++ [a], by rw [p1, List.append_assoc], p2, ?_⟩
      have eb : gWb (GE ns k T n N i o (us ++ [a]) st.length x9 x10 x11 x12) (RSt st k rows t) = .nx (GE ns k T n N i o us st.length x9 x10 x11 x12) (RSt st k (rows ++ [dropR]) t) := by
        refine (seq_nx (e := GE ns k T n N i o us st.length x9 x10 x11 x12) (s := RSt st k rows t) (by simp only [szs, fnM, rawM, seqM, ifM, tvM, truM, binM, unM, appM, consA, nilA, varM, conM, retM, retN, asgM, expM, raiseM, passS, callF, app1, app2, noExc, isExc_d, isExc_c, bindS_ok, bindS_err, bindS_stuck, Res.bind_ok, Res.bind_err, Res.bind_stuck, onBl_bl, andT, orT, notT, andV, orV, notV, tupM, lstM, toDs, toD, asD_d, asD_new, frzW_d, newT, newL, slM, slW, someO, noneO, ixW, addW, subW, mulW, modW, cmpW, negW, lenW, intW, tabW, isNonB, isNonW, isNon_d, List.map_cons, List.map_nil, List.length_cons, List.length_nil, List.replicate, List.append_nil, List.nil_append, List.cons_append, List.getElem?_cons_zero, List.getElem?_cons_succ, List.set_cons_zero, List.set_cons_succ, Nat.reduceAdd, Nat.reduceSub, if_true, if_false, ite_true, ite_false, Bool.not_true, Bool.not_false, Bool.and_true, Bool.and_false, Bool.false_eq_true, reduceIte, fin_same, finE_same, fin_new, atI_0, atI_1, atI_2, eqW_ofs, look_ofs, look_nil, dspC, newDc, inW, Option.isSome_some, Option.isSome_none, itM, forM, items_dl, items_dt, methL, methD, arg0, arg1, arg2, appendW, popW, listW, get_new, set_new, isLst_new, pow109, String.reduceBEq, String.reduceEq, Bool.false_or, Bool.true_or, Bool.or_false, Bool.or_true, cut1K, sz, Int.reduceNeg])).trans (pushR hk 8 _ _ rows t t dropR (by omega) rfl (by simp only [szs, fnM, rawM, seqM, ifM, tvM, truM, binM, unM, appM, consA, nilA, varM, conM, retM, retN, asgM, expM, raiseM, passS, callF, app1, app2, noExc, isExc_d, isExc_c, bindS_ok, bindS_err, bindS_stuck, Res.bind_ok, Res.bind_err, Res.bind_stuck, onBl_bl, andT, orT, notT, andV, orV, notV, tupM, lstM, toDs, toD, asD_d, asD_new, frzW_d, newT, newL, slM, slW, someO, noneO, ixW, addW, subW, mulW, modW, cmpW, negW, lenW, intW, tabW, isNonB, isNonW, isNon_d, List.map_cons, List.map_nil, List.length_cons, List.length_nil, List.replicate, List.append_nil, List.nil_append, List.cons_append, List.getElem?_cons_zero, List.getElem?_cons_succ, List.set_cons_zero, List.set_cons_succ, Nat.reduceAdd, Nat.reduceSub, if_true, if_false, ite_true, ite_false, Bool.not_true, Bool.not_false, Bool.and_true, Bool.and_false, Bool.false_eq_true, reduceIte, fin_same, finE_same, fin_new, atI_0, atI_1, atI_2, eqW_ofs, look_ofs, look_nil, dspC, newDc, inW, Option.isSome_some, Option.isSome_none, itM, forM, items_dl, items_dt, methL, methD, arg0, arg1, arg2, appendW, popW, listW, get_new, set_new, isLst_new, pow109, String.reduceBEq, String.reduceEq, Bool.false_or, Bool.true_or, Bool.or_false, Bool.or_true, dropR, Rw.enc, Row.enc, Op.s]))
      rw [decide_eq_false q]
      simp only [Bool.not_false, bindS_ok, if_true]
      rw [eb]
      simp only
      rw [p3, List.append_assoc, List.length_append, List.length_singleton, List.replicate_succ]
      rfl
theorem last_ok (n : Str) (N : List Str) (i o : List Kd) (hol : o.length ≤ 60) (t : Int) (h0 : 0 ≤ t) (h1 : t ≤ 600000) (x9 x10 x11 x12 : Option W) (rows : List Rw) (kk : List Kd) (hrun : runK (Tf T) i rows = some kk) (hro : ∀ r ∈ rows, r.ok) (hrl : rows.length ≤ 310) (hkl : kk.length ≤ 360) :
    ∃ (R : List Rw) (t' : Int) (e : Store), (∀ r ∈ R, r.ok) ∧ R.length ≤ 800 ∧ runK (Tf T) i R = some o ∧ t ≤ t' ∧ t' ≤ t + 120 ∧
      seqM (whileM gWc gWb 1000000) gLast (GE ns k T n N i o kk st.length x9 x10 x11 x12) (RSt st k rows t) = .ret (.d (.lst (encR R))) ((st ++ e).set k (tc t')) := by
  obtain ⟨kk', us, p1, p2, p3⟩ := gwhile_ok hk ns hT n N i o t x9 x10 x11 x12 hol kk.length kk rows 1000000 rfl (by omega) (by omega) (by omega)
  have hul : kk.length = kk'.length + us.length := by rw [p1, List.length_append]
  obtain ⟨vs, v1, v2, ev⟩ := pushes_ok ns k t (st ++ [Cell.lst (encR (rows ++ List.replicate us.length dropR))]) (by rw [List.length_append]; omega) h0 (o.drop kk'.length) (by rw [List.length_drop]; omega) (by omega) (.tup (encK (o.drop kk'.length))) (.inr rfl)
  have hvl : vs.length ≤ 60 := by have := congrArg List.length v1; rw [List.length_map, List.length_drop] at this; omega
  have hlen : ((encK kk').length : Int) = (kk'.length : Int) := by rw [List.length_map]
  have hcf : cut (encK o) (some (kk'.length : Int)) none = encK (o.drop kk'.length) := by rw [cut_from]; simp
  have hz : (encK (o.drop kk'.length)).length ≤ sizeLine := small (by rw [List.length_map, List.length_drop]; omega)
  have hsz : (encR (rows ++ List.replicate us.length dropR) ++ encR (vs.map Val.push)).length ≤ sizeLine := small (by rw [List.length_append, List.length_map, List.length_map, List.length_map, List.length_append, List.length_replicate]; omega)
  have happ : encR (rows ++ List.replicate us.length dropR) ++ encR (vs.map Val.push) = encR (rows ++ List.replicate us.length dropR ++ vs.map Val.push) := by simp
  rw [happ] at hsz
  refine ⟨rows ++ List.replicate us.length dropR ++ vs.map Val.push, t + 2 * (o.drop kk'.length).length, [Cell.lst (encR (rows ++ List.replicate us.length dropR))], ?_, ?_, ?_, by omega, by rw [List.length_drop]; omega, ?_⟩
  · intro r hr
    rcases List.mem_append.mp hr with h | h
    · rcases List.mem_append.mp h with h | h
      · exact hro r h
      · rw [List.eq_of_mem_replicate h]; trivial
    · obtain ⟨v, hv', rfl⟩ := List.mem_map.mp h; exact push_okr (v2 v hv')
  · rw [List.length_append, List.length_append, List.length_replicate, List.length_map]; omega
  · rw [List.append_assoc, runK_app hrun, p1, runK_app (drops_run _ us.length us kk' rfl), push_run, v1]
    have := List.take_append_drop kk'.length o
    rw [p2] at this
    rw [this]
  · refine (seq_nx p3).trans ?_
    simp only [szs, fnM, rawM, seqM, ifM, tvM, truM, binM, unM, appM, consA, nilA, varM, conM, retM, retN, asgM, expM, raiseM, passS, callF, app1, app2, noExc, isExc_d, isExc_c, bindS_ok, bindS_err, bindS_stuck, Res.bind_ok, Res.bind_err, Res.bind_stuck, onBl_bl, andT, orT, notT, andV, orV, notV, tupM, lstM, toDs, toD, asD_d, asD_new, frzW_d, newT, newL, slM, slW, someO, noneO, ixW, addW, subW, mulW, modW, cmpW, negW, lenW, intW, tabW, isNonB, isNonW, isNon_d, List.map_cons, List.map_nil, List.length_cons, List.length_nil, List.replicate, List.append_nil, List.nil_append, List.cons_append, List.getElem?_cons_zero, List.getElem?_cons_succ, List.set_cons_zero, List.set_cons_succ, Nat.reduceAdd, Nat.reduceSub, if_true, if_false, ite_true, ite_false, Bool.not_true, Bool.not_false, Bool.and_true, Bool.and_false, Bool.false_eq_true, reduceIte, fin_same, finE_same, fin_new, atI_0, atI_1, atI_2, eqW_ofs, look_ofs, look_nil, dspC, newDc, inW, Option.isSome_some, Option.isSome_none, itM, forM, items_dl, items_dt, methL, methD, arg0, arg1, arg2, appendW, popW, listW, get_new, set_new, isLst_new, pow109, String.reduceBEq, String.reduceEq, Bool.false_or, Bool.true_or, Bool.or_false, Bool.or_true, hlen, hcf, hz, ev, pa hk, happ, hsz]
theorem gfin_ok (n : Str) (N : List Str) (i o : List Kd) (hol : o.length ≤ 60) (t : Int) (h0 : 0 ≤ t) (h1 : t ≤ 600000) (x9 x10 x12 : Option W) (rows : List Rw) (kk : List Kd) (hrun : runK (Tf T) i rows = some kk) (hro : ∀ r ∈ rows, r.ok) (hrl : rows.length ≤ 310) (hkl : kk.length ≤ 360)
    (EN : List Str) (hE : ∀ m ∈ EN, NmOk m ∧ ∃ i', lookA m T = some (i', o)) (hE1 : 1 ≤ EN.length) (hE2 : EN.length ≤ 100) :
    ∃ (R : List Rw) (t' : Int) (e : Store), (∀ r ∈ R, r.ok) ∧ R.length ≤ 800 ∧ runK (Tf T) i R = some o ∧ t ≤ t' ∧ t' ≤ t + 125 ∧
      gFin (GE ns k T n N i o kk st.length x9 x10 (some (.d (.lst (encS EN)))) x12) (RSt st k rows t) = .ret (.d (.lst (encR R))) ((st ++ e).set k (tc t')) := by
  obtain ⟨a, a0, a1, ea⟩ := pd hk ns (Cell.lst (encR rows)) t 1000 h0 (by omega) (by decide)
  obtain ⟨m, hm, em⟩ := pick_ok EN a (by omega)
  obtain ⟨hmn, i', hio⟩ := hE m hm
  have hsm := hT.small m i' o hio
  have hlk : look m (encT [] T) = some (.tup [.tup (encK i'), .tup (encK o)]) := by rw [lookT, hio]; rfl
  have hEl : ((encS EN).length : Int) = (EN.length : Int) := by rw [List.length_map]
  have hlen : ((encK kk).length : Int) = (kk.length : Int) := by rw [List.length_map]
  have hE3 : (0 : Int) < (EN.length : Int) := by omega
  have hrep := repOk_nat (n := kk.length) (by omega)
  let c1 : Cell := Cell.lst (encR rows)
  let rows2 := rows ++ List.replicate kk.length dropR
  have hreps : List.replicate kk.length (D.tup [.str "drop"]) = encR (List.replicate kk.length dropR) := by simp [dropR, Rw.enc, Row.enc, Op.s]
  have hz0 : (encR (List.replicate kk.length dropR)).length ≤ sizeLine := small (by rw [List.length_map, List.length_replicate]; omega)
  have happ : encR rows ++ encR (List.replicate kk.length dropR) = encR rows2 := by simp [rows2]
  have hz1 : (encR rows2).length ≤ sizeLine := small (by rw [List.length_map, List.length_append, List.length_replicate]; omega)
  have hst2 : RSt st k rows (t + 1) ++ [Cell.lst (encR rows2)] = ((st ++ [c1]) ++ [Cell.lst (encR rows2)]).set k (tc (t + 1)) := by
    rw [List.set_append_left _ _ (by rw [List.length_append]; omega)]
  obtain ⟨vs, v1, v2, ev⟩ := pushes_ok ns k (t + 1) ((st ++ [c1]) ++ [Cell.lst (encR rows2)]) (by rw [List.length_append, List.length_append]; omega) (by omega) i' (by omega) (by omega) (.tup (encK i')) (.inr rfl)
  have hvl : vs.length = i'.length := by rw [← v1, List.length_map]
  have hRl : (RSt st k rows (t + 1)).length = st.length + 1 := by rw [List.length_set, List.length_append]; rfl
  have hget : ∀ x, asD (((st ++ [c1]) ++ [Cell.lst (encR rows2)]).set k x) (.c (st.length + 1)) = some (.lst (encR rows2)) := fun x => by
    have := pa (st := st ++ [c1]) (k := k) (by rw [List.length_append]; omega) (encR rows2) x
    rw [List.length_append] at this
    exact this
  have happ2 : encR rows2 ++ encR (vs.map Val.push) = encR (rows2 ++ vs.map Val.push) := by simp
  have hz2 : (encR (rows2 ++ vs.map Val.push)).length ≤ sizeLine := small (by rw [List.length_map, List.length_append, List.length_append, List.length_replicate, List.length_map]; omega)
  have happ3 : encR (rows2 ++ vs.map Val.push) ++ [D.tup [.str "call", .str m]] = encR (rows2 ++ vs.map Val.push ++ [.call m]) := by simp [Rw.enc]
  have hz3 : (encR (rows2 ++ vs.map Val.push ++ [.call m])).length ≤ sizeLine := small (by rw [List.length_map, List.length_append, List.length_append, List.length_append, List.length_replicate, List.length_map, List.length_singleton]; omega)
  refine ⟨rows2 ++ vs.map Val.push ++ [.call m], t + 1 + 2 * i'.length, [c1, Cell.lst (encR rows2)], ?_, by rw [List.length_append, List.length_append, List.length_append, List.length_replicate, List.length_map, List.length_singleton]; omega, ?_, by omega, by omega, ?_⟩
  · intro r hr
    rcases List.mem_append.mp hr with h | h
    · rcases List.mem_append.mp h with h | h
      · rcases List.mem_append.mp h with h | h
        · exact hro r h
        · rw [List.eq_of_mem_replicate h]; trivial
      · obtain ⟨v, hv', rfl⟩ := List.mem_map.mp h; exact push_okr (v2 v hv')
    · rw [List.mem_singleton] at h; subst h; exact hmn.ok
  · have hd := drops_run (Tf T) kk.length kk [] rfl
    rw [List.nil_append] at hd
    rw [List.append_assoc, List.append_assoc, runK_app hrun, runK_app hd, runK_app (push_run _ vs []), v1]
    have := called_app [] i' o
    rw [List.nil_append] at this
    rw [List.nil_append]
    simp only [runK, nextK, hio, this, List.nil_append]
  · refine (seq_nx (e := GE ns k T n N i o kk st.length x9 x10 (some (.d (.lst (encS EN)))) (some (.d (.str m)))) (s := RSt st k rows (t + 1)) (by simp only [szs, fnM, rawM, seqM, ifM, tvM, truM, binM, unM, appM, consA, nilA, varM, conM, retM, retN, asgM, expM, raiseM, passS, callF, app1, app2, noExc, isExc_d, isExc_c, bindS_ok, bindS_err, bindS_stuck, Res.bind_ok, Res.bind_err, Res.bind_stuck, onBl_bl, andT, orT, notT, andV, orV, notV, tupM, lstM, toDs, toD, asD_d, asD_new, frzW_d, newT, newL, slM, slW, someO, noneO, ixW, addW, subW, mulW, modW, cmpW, negW, lenW, intW, tabW, isNonB, isNonW, isNon_d, List.map_cons, List.map_nil, List.length_cons, List.length_nil, List.replicate, List.append_nil, List.nil_append, List.cons_append, List.getElem?_cons_zero, List.getElem?_cons_succ, List.set_cons_zero, List.set_cons_succ, Nat.reduceAdd, Nat.reduceSub, if_true, if_false, ite_true, ite_false, Bool.not_true, Bool.not_false, Bool.and_true, Bool.and_false, Bool.false_eq_true, reduceIte, fin_same, finE_same, fin_new, atI_0, atI_1, atI_2, eqW_ofs, look_ofs, look_nil, dspC, newDc, inW, Option.isSome_some, Option.isSome_none, itM, forM, items_dl, items_dt, methL, methD, arg0, arg1, arg2, appendW, popW, listW, get_new, set_new, isLst_new, pow109, String.reduceBEq, String.reduceEq, Bool.false_or, Bool.true_or, Bool.or_false, Bool.or_true, ea, hEl, hE3, em])).trans ?_
    refine (seq_nx (e := GE ns k T n N i o kk (st.length + 1) x9 x10 (some (.d (.lst (encS EN)))) (some (.d (.str m)))) (s := ((st ++ [c1]) ++ [Cell.lst (encR rows2)]).set k (tc (t + 1))) (by
      rw [← hst2]
      simp only [szs, fnM, rawM, seqM, ifM, tvM, truM, binM, unM, appM, consA, nilA, varM, conM, retM, retN, asgM, expM, raiseM, passS, callF, app1, app2, noExc, isExc_d, isExc_c, bindS_ok, bindS_err, bindS_stuck, Res.bind_ok, Res.bind_err, Res.bind_stuck, onBl_bl, andT, orT, notT, andV, orV, notV, tupM, lstM, toDs, toD, asD_d, asD_new, frzW_d, newT, newL, slM, slW, someO, noneO, ixW, addW, subW, mulW, modW, cmpW, negW, lenW, intW, tabW, isNonB, isNonW, isNon_d, List.map_cons, List.map_nil, List.length_cons, List.length_nil, List.replicate, List.append_nil, List.nil_append, List.cons_append, List.getElem?_cons_zero, List.getElem?_cons_succ, List.set_cons_zero, List.set_cons_succ, Nat.reduceAdd, Nat.reduceSub, if_true, if_false, ite_true, ite_false, Bool.not_true, Bool.not_false, Bool.and_true, Bool.and_false, Bool.false_eq_true, reduceIte, fin_same, finE_same, fin_new, atI_0, atI_1, atI_2, eqW_ofs, look_ofs, look_nil, dspC, newDc, inW, Option.isSome_some, Option.isSome_none, itM, forM, items_dl, items_dt, methL, methD, arg0, arg1, arg2, appendW, popW, listW, get_new, set_new, isLst_new, pow109, String.reduceBEq, String.reduceEq, Bool.false_or, Bool.true_or, Bool.or_false, Bool.or_true, hlen, hrep, reps_nat, hreps, hz0, pa hk, happ, hz1, hRl])).trans ?_
    rw [show st ++ [c1, Cell.lst (encR rows2)] = (st ++ [c1]) ++ [Cell.lst (encR rows2)] by simp]
    simp only [szs, fnM, rawM, seqM, ifM, tvM, truM, binM, unM, appM, consA, nilA, varM, conM, retM, retN, asgM, expM, raiseM, passS, callF, app1, app2, noExc, isExc_d, isExc_c, bindS_ok, bindS_err, bindS_stuck, Res.bind_ok, Res.bind_err, Res.bind_stuck, onBl_bl, andT, orT, notT, andV, orV, notV, tupM, lstM, toDs, toD, asD_d, asD_new, frzW_d, newT, newL, slM, slW, someO, noneO, ixW, addW, subW, mulW, modW, cmpW, negW, lenW, intW, tabW, isNonB, isNonW, isNon_d, List.map_cons, List.map_nil, List.length_cons, List.length_nil, List.replicate, List.append_nil, List.nil_append, List.cons_append, List.getElem?_cons_zero, List.getElem?_cons_succ, List.set_cons_zero, List.set_cons_succ, Nat.reduceAdd, Nat.reduceSub, if_true, if_false, ite_true, ite_false, Bool.not_true, Bool.not_false, Bool.and_true, Bool.and_false, Bool.false_eq_true, reduceIte, fin_same, finE_same, fin_new, atI_0, atI_1, atI_2, eqW_ofs, look_ofs, look_nil, dspC, newDc, inW, Option.isSome_some, Option.isSome_none, itM, forM, items_dl, items_dt, methL, methD, arg0, arg1, arg2, appendW, popW, listW, get_new, set_new, isLst_new, pow109, String.reduceBEq, String.reduceEq, Bool.false_or, Bool.true_or, Bool.or_false, Bool.or_true, hget, hlk, ev, happ2, hz2, happ3, hz3]
end
end Py

namespace Py
open PySem L2
section
variable {st : Store} {k : Nat} (hk : k < st.length) (ns : List Int) {T : Td} (hT : TdOk T)
include hk hT
theorem good_rows_ok (t : Int) (h0 : 0 ≤ t) (h1 : t ≤ 300000) (n : Str) (i o : List Kd) (hio : lookA n T = some (i, o)) (N : List Str) (hN : ∀ n ∈ N, NmOk n ∧ ∃ io, lookA n T = some io) (hN2 : N.length ≤ 100) :
    ∃ (R : List Rw) (t' : Int), (∀ r ∈ R, r.ok) ∧ R.length ≤ 800 ∧ runK (Tf T) i R = some o ∧ t ≤ t' ∧ t' ≤ t + 1300 ∧
      s_good_rows [.d (.scr ns), .c k, .d (.dct (encT [] T)), .d (.str n), .d (.lst (encS N))] (st.set k (tc t)) = .ok (.d (.lst (encR R))) (st.set k (tc t')) := by
  have hsm := hT.small n i o hio
  have hlk : look n (encT [] T) = some (.tup [.tup (encK i), .tup (encK o)]) := by rw [lookT, hio]; rfl
  have szi : (encK i).length ≤ sizeLine := small (by rw [List.length_map]; omega)
  have eRS : st.set k (tc t) ++ [Cell.lst (encR [])] = RSt st k [] t := by rw [show RSt st k [] t = st.set k (tc t) ++ [Cell.lst (encR [])] from List.set_append_left _ _ hk]
  obtain ⟨m, m0, m1, em⟩ := pd hk ns (Cell.lst (encR [])) t 6 h0 (by omega) (by decide)
  obtain ⟨rows, kk, t1, y9, y10, p1, p2, p3, p4, p5, p6, eo⟩ := outer_ok hk ns hT n N hN hN2 i o hsm.1 m.toNat (by omega) (t + 1) (by omega) (by omega)
  let cond : Str → Bool := fun m => decide ((lookA m T).map (·.2) = some o)
  let EN : List Str := N.filter cond
  have hENl : EN.length ≤ 100 := Nat.le_trans (List.length_filter_le _ _) hN2
  have hE : ∀ m ∈ EN, NmOk m ∧ ∃ i', lookA m T = some (i', o) := fun m hm => by
    obtain ⟨h1, h2⟩ := List.mem_filter.mp hm
    obtain ⟨hn, ⟨i', o'⟩, h3⟩ := hN m h1
    refine ⟨hn, i', ?_⟩
    have h4 : decide ((lookA m T).map (·.2) = some o) = true := h2
    rw [h3] at h4 ⊢
    simpa using h4
  have hszE : (encS EN).length ≤ sizeLine := small (by rw [List.length_map]; omega)
  have elc : lcLoop 12 (tvM (binM (eqW false) (binM ixW (binM ixW (varM 2) (varM 12)) (conM (.int 1))) (varM 6))) (varM 12) (encS N) [] (GE ns k T n N i o kk st.length y9 y10 none none) (RSt st k rows t1) = .ok (encS EN) (RSt st k rows t1) := by
    rw [lcLoop_pure (fun x => x) (fun x => match x with | .str m => cond m | _ => false) (encS N) [] (fun x hx => ?_) (by simp only [List.length_nil, List.length_map]; exact small (by omega))]
    · rw [List.filter_map]
      simp only [List.nil_append, List.map_id']
      rfl
    · obtain ⟨m, hm, rfl⟩ := List.mem_map.mp hx
      obtain ⟨hm1, ⟨i', o'⟩, hm2⟩ := hN m hm
      have hlkm : look m (encT [] T) = some (.tup [.tup (encK i'), .tup (encK o')]) := by rw [lookT, hm2]; rfl
      constructor
      · show _ = Res.ok (decide ((lookA m T).map (·.2) = some o)) _
        rw [hm2]
        simp only [szs, fnM, rawM, seqM, ifM, tvM, truM, binM, unM, appM, consA, nilA, varM, conM, retM, retN, asgM, expM, raiseM, passS, callF, app1, app2, noExc, isExc_d, isExc_c, bindS_ok, bindS_err, bindS_stuck, Res.bind_ok, Res.bind_err, Res.bind_stuck, onBl_bl, andT, orT, notT, andV, orV, notV, tupM, lstM, toDs, toD, asD_d, asD_new, frzW_d, newT, newL, slM, slW, someO, noneO, ixW, addW, subW, mulW, modW, cmpW, negW, lenW, intW, tabW, isNonB, isNonW, isNon_d, List.map_cons, List.map_nil, List.length_cons, List.length_nil, List.replicate, List.append_nil, List.nil_append, List.cons_append, List.getElem?_cons_zero, List.getElem?_cons_succ, List.set_cons_zero, List.set_cons_succ, Nat.reduceAdd, Nat.reduceSub, if_true, if_false, ite_true, ite_false, Bool.not_true, Bool.not_false, Bool.and_true, Bool.and_false, Bool.false_eq_true, reduceIte, fin_same, finE_same, fin_new, atI_0, atI_1, atI_2, eqW_ofs, look_ofs, look_nil, dspC, newDc, inW, Option.isSome_some, Option.isSome_none, itM, forM, items_dl, items_dt, methL, methD, arg0, arg1, arg2, appendW, popW, listW, get_new, set_new, isLst_new, pow109, String.reduceBEq, String.reduceEq, Bool.false_or, Bool.true_or, Bool.or_false, Bool.or_true, hlkm, eqW_K, Option.map_some, Option.some.injEq]
      · intro _
        simp only [szs, fnM, rawM, seqM, ifM, tvM, truM, binM, unM, appM, consA, nilA, varM, conM, retM, retN, asgM, expM, raiseM, passS, callF, app1, app2, noExc, isExc_d, isExc_c, bindS_ok, bindS_err, bindS_stuck, Res.bind_ok, Res.bind_err, Res.bind_stuck, onBl_bl, andT, orT, notT, andV, orV, notV, tupM, lstM, toDs, toD, asD_d, asD_new, frzW_d, newT, newL, slM, slW, someO, noneO, ixW, addW, subW, mulW, modW, cmpW, negW, lenW, intW, tabW, isNonB, isNonW, isNon_d, List.map_cons, List.map_nil, List.length_cons, List.length_nil, List.replicate, List.append_nil, List.nil_append, List.cons_append, List.getElem?_cons_zero, List.getElem?_cons_succ, List.set_cons_zero, List.set_cons_succ, Nat.reduceAdd, Nat.reduceSub, if_true, if_false, ite_true, ite_false, Bool.not_true, Bool.not_false, Bool.and_true, Bool.and_false, Bool.false_eq_true, reduceIte, fin_same, finE_same, fin_new, atI_0, atI_1, atI_2, eqW_ofs, look_ofs, look_nil, dspC, newDc, inW, Option.isSome_some, Option.isSome_none, itM, forM, items_dl, items_dt, methL, methD, arg0, arg1, arg2, appendW, popW, listW, get_new, set_new, isLst_new, pow109, String.reduceBEq, String.reduceEq, Bool.false_or, Bool.true_or, Bool.or_false, Bool.or_true]
  have hlE : ((encS EN).length : Int) = (EN.length : Int) := by rw [List.length_map]
  -- the two ends
  obtain ⟨R, t', e, r1, r2, r3, r4, r5, er⟩ : ∃ (R : List Rw) (t' : Int) (e : Store), (∀ r ∈ R, r.ok) ∧ R.length ≤ 800 ∧ runK (Tf T) i R = some o ∧ t1 ≤ t' ∧ t' ≤ t1 + 126 ∧
      seqM (ifM (andT (tvM (binM gtW (appM (app1 lenW) (consA (varM 11) nilA)) (conM (.int 0)))) (tvM (binM (eqW false) (callF s_draw (consA (varM 0) (consA (varM 1) (consA (conM (.int 3)) nilA)))) (conM (.int 0))))) gFin passS) (seqM (whileM gWc gWb 1000000) gLast) (GE ns k T n N i o kk st.length y9 y10 (some (.d (.lst (encS EN)))) none) (RSt st k rows t1) = .ret (.d (.lst (encR R))) ((st ++ e).set k (tc t')) := by
    by_cases hn : (EN.length : Int) > 0
    · obtain ⟨a, a0, a1, ea⟩ := pd hk ns (Cell.lst (encR rows)) t1 3 (by omega) (by omega) (by decide)
      by_cases ha : a = 0
      · subst ha
        obtain ⟨R, t', e, r1, r2, r3, r4, r5, er⟩ := gfin_ok hk ns hT n N i o hsm.2 (t1 + 1) (by omega) (by omega) y9 y10 none rows kk p1 p2 p3 p4 EN hE (by omega) hENl
        refine ⟨R, t', e, r1, r2, r3, by omega, by omega, ?_⟩
        refine seq_ret ((if_t (s := RSt st k rows (t1 + 1)) ?_).trans er)
        simp only [szs, fnM, rawM, seqM, ifM, tvM, truM, binM, unM, appM, consA, nilA, varM, conM, retM, retN, asgM, expM, raiseM, passS, callF, app1, app2, noExc, isExc_d, isExc_c, bindS_ok, bindS_err, bindS_stuck, Res.bind_ok, Res.bind_err, Res.bind_stuck, onBl_bl, andT, orT, notT, andV, orV, notV, tupM, lstM, toDs, toD, asD_d, asD_new, frzW_d, newT, newL, slM, slW, someO, noneO, ixW, addW, subW, mulW, modW, cmpW, negW, lenW, intW, tabW, isNonB, isNonW, isNon_d, List.map_cons, List.map_nil, List.length_cons, List.length_nil, List.replicate, List.append_nil, List.nil_append, List.cons_append, List.getElem?_cons_zero, List.getElem?_cons_succ, List.set_cons_zero, List.set_cons_succ, Nat.reduceAdd, Nat.reduceSub, if_true, if_false, ite_true, ite_false, Bool.not_true, Bool.not_false, Bool.and_true, Bool.and_false, Bool.false_eq_true, reduceIte, fin_same, finE_same, fin_new, atI_0, atI_1, atI_2, eqW_ofs, look_ofs, look_nil, dspC, newDc, inW, Option.isSome_some, Option.isSome_none, itM, forM, items_dl, items_dt, methL, methD, arg0, arg1, arg2, appendW, popW, listW, get_new, set_new, isLst_new, pow109, String.reduceBEq, String.reduceEq, Bool.false_or, Bool.true_or, Bool.or_false, Bool.or_true, gtW, hlE, hn, decide_true, ea, eqW_int, beq_self_eq_true]
      · have ha' : (a == 0) = false := by simpa using ha
        obtain ⟨R, t', e, r1, r2, r3, r4, r5, er⟩ := last_ok hk ns hT n N i o hsm.2 (t1 + 1) (by omega) (by omega) y9 y10 (some (.d (.lst (encS EN)))) none rows kk p1 p2 p3 p4
        refine ⟨R, t', e, r1, r2, r3, by omega, by omega, ?_⟩
        refine (seq_nx (e := GE ns k T n N i o kk st.length y9 y10 (some (.d (.lst (encS EN)))) none) (s := RSt st k rows (t1 + 1)) ?_).trans er
        simp only [szs, fnM, rawM, seqM, ifM, tvM, truM, binM, unM, appM, consA, nilA, varM, conM, retM, retN, asgM, expM, raiseM, passS, callF, app1, app2, noExc, isExc_d, isExc_c, bindS_ok, bindS_err, bindS_stuck, Res.bind_ok, Res.bind_err, Res.bind_stuck, onBl_bl, andT, orT, notT, andV, orV, notV, tupM, lstM, toDs, toD, asD_d, asD_new, frzW_d, newT, newL, slM, slW, someO, noneO, ixW, addW, subW, mulW, modW, cmpW, negW, lenW, intW, tabW, isNonB, isNonW, isNon_d, List.map_cons, List.map_nil, List.length_cons, List.length_nil, List.replicate, List.append_nil, List.nil_append, List.cons_append, List.getElem?_cons_zero, List.getElem?_cons_succ, List.set_cons_zero, List.set_cons_succ, Nat.reduceAdd, Nat.reduceSub, if_true, if_false, ite_true, ite_false, Bool.not_true, Bool.not_false, Bool.and_true, Bool.and_false, Bool.false_eq_true, reduceIte, fin_same, finE_same, fin_new, atI_0, atI_1, atI_2, eqW_ofs, look_ofs, look_nil, dspC, newDc, inW, Option.isSome_some, Option.isSome_none, itM, forM, items_dl, items_dt, methL, methD, arg0, arg1, arg2, appendW, popW, listW, get_new, set_new, isLst_new, pow109, String.reduceBEq, String.reduceEq, Bool.false_or, Bool.true_or, Bool.or_false, Bool.or_true, gtW, hlE, hn, decide_true, ea, eqW_int, ha']
    · have hn' : decide ((EN.length : Int) > 0) = false := decide_eq_false hn
      obtain ⟨R, t', e, r1, r2, r3, r4, r5, er⟩ := last_ok hk ns hT n N i o hsm.2 t1 (by omega) (by omega) y9 y10 (some (.d (.lst (encS EN)))) none rows kk p1 p2 p3 p4
      refine ⟨R, t', e, r1, r2, r3, by omega, by omega, ?_⟩
      refine (seq_nx (e := GE ns k T n N i o kk st.length y9 y10 (some (.d (.lst (encS EN)))) none) (s := RSt st k rows t1) ?_).trans er
      simp only [szs, fnM, rawM, seqM, ifM, tvM, truM, binM, unM, appM, consA, nilA, varM, conM, retM, retN, asgM, expM, raiseM, passS, callF, app1, app2, noExc, isExc_d, isExc_c, bindS_ok, bindS_err, bindS_stuck, Res.bind_ok, Res.bind_err, Res.bind_stuck, onBl_bl, andT, orT, notT, andV, orV, notV, tupM, lstM, toDs, toD, asD_d, asD_new, frzW_d, newT, newL, slM, slW, someO, noneO, ixW, addW, subW, mulW, modW, cmpW, negW, lenW, intW, tabW, isNonB, isNonW, isNon_d, List.map_cons, List.map_nil, List.length_cons, List.length_nil, List.replicate, List.append_nil, List.nil_append, List.cons_append, List.getElem?_cons_zero, List.getElem?_cons_succ, List.set_cons_zero, List.set_cons_succ, Nat.reduceAdd, Nat.reduceSub, if_true, if_false, ite_true, ite_false, Bool.not_true, Bool.not_false, Bool.and_true, Bool.and_false, Bool.false_eq_true, reduceIte, fin_same, finE_same, fin_new, atI_0, atI_1, atI_2, eqW_ofs, look_ofs, look_nil, dspC, newDc, inW, Option.isSome_some, Option.isSome_none, itM, forM, items_dl, items_dt, methL, methD, arg0, arg1, arg2, appendW, popW, listW, get_new, set_new, isLst_new, pow109, String.reduceBEq, String.reduceEq, Bool.false_or, Bool.true_or, Bool.or_false, Bool.or_true, gtW, hlE, hn']
  refine ⟨R, t', r1, r2, r3, by omega, by omega, (fnM_ret rfl ?_).trans (fin_dat (e := e) hk)⟩
  unfold b_good_rows
  refine (seq_nx (e := [some (.d (.scr ns)), some (.c k), some (.d (.dct (encT [] T))), some (.d (.str n)), some (.d (.lst (encS N))), some (.d (.tup (encK i))), some (.d (.tup (encK o))), none, none, none, none, none, none]) (s := st.set k (tc t)) (by simp only [szs, fnM, rawM, seqM, ifM, tvM, truM, binM, unM, appM, consA, nilA, varM, conM, retM, retN, asgM, expM, raiseM, passS, callF, app1, app2, noExc, isExc_d, isExc_c, bindS_ok, bindS_err, bindS_stuck, Res.bind_ok, Res.bind_err, Res.bind_stuck, onBl_bl, andT, orT, notT, andV, orV, notV, tupM, lstM, toDs, toD, asD_d, asD_new, frzW_d, newT, newL, slM, slW, someO, noneO, ixW, addW, subW, mulW, modW, cmpW, negW, lenW, intW, tabW, isNonB, isNonW, isNon_d, List.map_cons, List.map_nil, List.length_cons, List.length_nil, List.replicate, List.append_nil, List.nil_append, List.cons_append, List.getElem?_cons_zero, List.getElem?_cons_succ, List.set_cons_zero, List.set_cons_succ, Nat.reduceAdd, Nat.reduceSub, if_true, if_false, ite_true, ite_false, Bool.not_true, Bool.not_false, Bool.and_true, Bool.and_false, Bool.false_eq_true, reduceIte, fin_same, finE_same, fin_new, atI_0, atI_1, atI_2, eqW_ofs, look_ofs, look_nil, dspC, newDc, inW, Option.isSome_some, Option.isSome_none, itM, forM, items_dl, items_dt, methL, methD, arg0, arg1, arg2, appendW, popW, listW, get_new, set_new, isLst_new, pow109, String.reduceBEq, String.reduceEq, Bool.false_or, Bool.true_or, Bool.or_false, Bool.or_true, asgTM, hlk, sets])).trans ?_
  refine (seq_nx (e := [some (.d (.scr ns)), some (.c k), some (.d (.dct (encT [] T))), some (.d (.str n)), some (.d (.lst (encS N))), some (.d (.tup (encK i))), some (.d (.tup (encK o))), some (.d (.lst (encK i))), none, none, none, none, none]) (s := st.set k (tc t)) (by simp only [szs, fnM, rawM, seqM, ifM, tvM, truM, binM, unM, appM, consA, nilA, varM, conM, retM, retN, asgM, expM, raiseM, passS, callF, app1, app2, noExc, isExc_d, isExc_c, bindS_ok, bindS_err, bindS_stuck, Res.bind_ok, Res.bind_err, Res.bind_stuck, onBl_bl, andT, orT, notT, andV, orV, notV, tupM, lstM, toDs, toD, asD_d, asD_new, frzW_d, newT, newL, slM, slW, someO, noneO, ixW, addW, subW, mulW, modW, cmpW, negW, lenW, intW, tabW, isNonB, isNonW, isNon_d, List.map_cons, List.map_nil, List.length_cons, List.length_nil, List.replicate, List.append_nil, List.nil_append, List.cons_append, List.getElem?_cons_zero, List.getElem?_cons_succ, List.set_cons_zero, List.set_cons_succ, Nat.reduceAdd, Nat.reduceSub, if_true, if_false, ite_true, ite_false, Bool.not_true, Bool.not_false, Bool.and_true, Bool.and_false, Bool.false_eq_true, reduceIte, fin_same, finE_same, fin_new, atI_0, atI_1, atI_2, eqW_ofs, look_ofs, look_nil, dspC, newDc, inW, Option.isSome_some, Option.isSome_none, itM, forM, items_dl, items_dt, methL, methD, arg0, arg1, arg2, appendW, popW, listW, get_new, set_new, isLst_new, pow109, String.reduceBEq, String.reduceEq, Bool.false_or, Bool.true_or, Bool.or_false, Bool.or_true, szi])).trans ?_
  refine (seq_nx (e := GE ns k T n N i o i st.length none none none none) (s := RSt st k [] t) (by
    simp only [szs, fnM, rawM, seqM, ifM, tvM, truM, binM, unM, appM, consA, nilA, varM, conM, retM, retN, asgM, expM, raiseM, passS, callF, app1, app2, noExc, isExc_d, isExc_c, bindS_ok, bindS_err, bindS_stuck, Res.bind_ok, Res.bind_err, Res.bind_stuck, onBl_bl, andT, orT, notT, andV, orV, notV, tupM, lstM, toDs, toD, asD_d, asD_new, frzW_d, newT, newL, slM, slW, someO, noneO, ixW, addW, subW, mulW, modW, cmpW, negW, lenW, intW, tabW, isNonB, isNonW, isNon_d, List.map_cons, List.map_nil, List.length_cons, List.length_nil, List.replicate, List.append_nil, List.nil_append, List.cons_append, List.getElem?_cons_zero, List.getElem?_cons_succ, List.set_cons_zero, List.set_cons_succ, Nat.reduceAdd, Nat.reduceSub, if_true, if_false, ite_true, ite_false, Bool.not_true, Bool.not_false, Bool.and_true, Bool.and_false, Bool.false_eq_true, reduceIte, fin_same, finE_same, fin_new, atI_0, atI_1, atI_2, eqW_ofs, look_ofs, look_nil, dspC, newDc, inW, Option.isSome_some, Option.isSome_none, itM, forM, items_dl, items_dt, methL, methD, arg0, arg1, arg2, appendW, popW, listW, get_new, set_new, isLst_new, pow109, String.reduceBEq, String.reduceEq, Bool.false_or, Bool.true_or, Bool.or_false, Bool.or_true, List.length_set]
    rw [← eRS]; rfl)).trans ?_
  refine (seq_nx (e := GE ns k T n N i o kk st.length y9 y10 none none) (s := RSt st k rows t1) (by
    have e1 := rng_ok (callF s_draw (consA (varM 0) (consA (varM 1) (consA (conM (.int 6)) nilA)))) (GE ns k T n N i o i st.length none none none none) (RSt st k [] t) (RSt st k [] (t + 1)) m.toNat (by
      rw [Int.toNat_of_nonneg m0]
      have em' : s_draw [.d (.scr ns), .c k, .d (.int 6)] (RSt st k [] t) = .ok (.d (.int m)) (RSt st k [] (t + 1)) := em
      simp only [szs, fnM, rawM, seqM, ifM, tvM, truM, binM, unM, appM, consA, nilA, varM, conM, retM, retN, asgM, expM, raiseM, passS, callF, app1, app2, noExc, isExc_d, isExc_c, bindS_ok, bindS_err, bindS_stuck, Res.bind_ok, Res.bind_err, Res.bind_stuck, onBl_bl, andT, orT, notT, andV, orV, notV, tupM, lstM, toDs, toD, asD_d, asD_new, frzW_d, newT, newL, slM, slW, someO, noneO, ixW, addW, subW, mulW, modW, cmpW, negW, lenW, intW, tabW, isNonB, isNonW, isNon_d, List.map_cons, List.map_nil, List.length_cons, List.length_nil, List.replicate, List.append_nil, List.nil_append, List.cons_append, List.getElem?_cons_zero, List.getElem?_cons_succ, List.set_cons_zero, List.set_cons_succ, Nat.reduceAdd, Nat.reduceSub, if_true, if_false, ite_true, ite_false, Bool.not_true, Bool.not_false, Bool.and_true, Bool.and_false, Bool.false_eq_true, reduceIte, fin_same, finE_same, fin_new, atI_0, atI_1, atI_2, eqW_ofs, look_ofs, look_nil, dspC, newDc, inW, Option.isSome_some, Option.isSome_none, itM, forM, items_dl, items_dt, methL, methD, arg0, arg1, arg2, appendW, popW, listW, get_new, set_new, isLst_new, pow109, String.reduceBEq, String.reduceEq, Bool.false_or, Bool.true_or, Bool.or_false, Bool.or_true, em']) (by omega)
    unfold forM
    rw [e1]
    exact eo)).trans ?_
  refine (seq_nx (e := GE ns k T n N i o kk st.length y9 y10 (some (.d (.lst (encS EN)))) none) (s := RSt st k rows t1) (asg_ok (lcm_ok (by simp only [szs, fnM, rawM, seqM, ifM, tvM, truM, binM, unM, appM, consA, nilA, varM, conM, retM, retN, asgM, expM, raiseM, passS, callF, app1, app2, noExc, isExc_d, isExc_c, bindS_ok, bindS_err, bindS_stuck, Res.bind_ok, Res.bind_err, Res.bind_stuck, onBl_bl, andT, orT, notT, andV, orV, notV, tupM, lstM, toDs, toD, asD_d, asD_new, frzW_d, newT, newL, slM, slW, someO, noneO, ixW, addW, subW, mulW, modW, cmpW, negW, lenW, intW, tabW, isNonB, isNonW, isNon_d, List.map_cons, List.map_nil, List.length_cons, List.length_nil, List.replicate, List.append_nil, List.nil_append, List.cons_append, List.getElem?_cons_zero, List.getElem?_cons_succ, List.set_cons_zero, List.set_cons_succ, Nat.reduceAdd, Nat.reduceSub, if_true, if_false, ite_true, ite_false, Bool.not_true, Bool.not_false, Bool.and_true, Bool.and_false, Bool.false_eq_true, reduceIte, fin_same, finE_same, fin_new, atI_0, atI_1, atI_2, eqW_ofs, look_ofs, look_nil, dspC, newDc, inW, Option.isSome_some, Option.isSome_none, itM, forM, items_dl, items_dt, methL, methD, arg0, arg1, arg2, appendW, popW, listW, get_new, set_new, isLst_new, pow109, String.reduceBEq, String.reduceEq, Bool.false_or, Bool.true_or, Bool.or_false, Bool.or_true]) elc hszE))).trans ?_
  exact er
end
theorem kinds_2_ok (ns : List Int) (k : Nat) (t : Int) (st : Store) (hk : k < st.length) (h0 : 0 ≤ t) (h1 : t ≤ 800000) :
    ∃ (ks : List Kd) (t' : Int), ks.length ≤ 60 ∧ t ≤ t' ∧ t' ≤ t + 102 ∧ s_kinds_2 [.d (.scr ns), .c k] (st.set k (tc t)) = .ok (.d (.tup (encK ks))) (st.set k (tc t')) := by
  obtain ⟨a, a0, a1, ea⟩ := draw2 ns k t 4 st hk h0 (by omega) (by decide)
  obtain ⟨b, b0, b1, eb⟩ := draw2 ns k (t + 1) 20 st hk (by omega) (by omega) (by decide)
  have tail : ∀ n : Nat, n ≤ 60 → ∃ ks : List Kd, ks.length = n ∧ (retM (appM (app1 tupleW) (consA (lcM false (rngM (varM 2)) 3 yesT kindE) nilA))) [some (.d (.scr ns)), some (.c k), some (.d (.int n)), none] (st.set k (tc (t + 1 + 1))) = .ret (.d (.tup (encK ks))) (st.set k (tc (t + 1 + 1 + n))) := fun n hn => by
    obtain ⟨ks, hks, e⟩ := kinds_lcd ns k st hk 3 [some (.d (.scr ns)), some (.c k), some (.d (.int n)), none] (fun _ => rfl) (fun _ => rfl) n (uptoD n) (by simp [uptoD]) (t + 1 + 1) (by omega) (by omega) (by omega)
    have sz : (encK ks).length ≤ sizeLine := small (by simp; omega)
    refine ⟨ks, hks, ?_⟩
    simp only [szs, fnM, rawM, seqM, ifM, tvM, truM, binM, unM, appM, consA, nilA, varM, conM, retM, retN, asgM, expM, raiseM, passS, callF, app1, app2, noExc, isExc_d, isExc_c, bindS_ok, bindS_err, bindS_stuck, Res.bind_ok, Res.bind_err, Res.bind_stuck, onBl_bl, andT, orT, notT, andV, orV, notV, tupM, lstM, toDs, toD, asD_d, asD_new, frzW_d, newT, newL, slM, slW, someO, noneO, ixW, addW, subW, mulW, modW, cmpW, negW, lenW, intW, tabW, isNonB, isNonW, isNon_d, List.map_cons, List.map_nil, List.length_cons, List.length_nil, List.replicate, List.append_nil, List.nil_append, List.cons_append, List.getElem?_cons_zero, List.getElem?_cons_succ, List.set_cons_zero, List.set_cons_succ, Nat.reduceAdd, Nat.reduceSub, if_true, if_false, ite_true, ite_false, Bool.not_true, Bool.not_false, Bool.and_true, Bool.and_false, Bool.false_eq_true, reduceIte, fin_same, finE_same, fin_new, atI_0, atI_1, atI_2, eqW_ofs, look_ofs, look_nil, dspC, newDc, inW, Option.isSome_some, Option.isSome_none, itM, forM, items_dl, items_dt, methL, methD, arg0, arg1, arg2, appendW, popW, listW, get_new, set_new, isLst_new, pow109, String.reduceBEq, String.reduceEq, Bool.false_or, Bool.true_or, Bool.or_false, Bool.or_true, lcM]
    rw [rng_ok _ _ _ (st.set k (tc (t + 1 + 1))) n (by simp only [szs, fnM, rawM, seqM, ifM, tvM, truM, binM, unM, appM, consA, nilA, varM, conM, retM, retN, asgM, expM, raiseM, passS, callF, app1, app2, noExc, isExc_d, isExc_c, bindS_ok, bindS_err, bindS_stuck, Res.bind_ok, Res.bind_err, Res.bind_stuck, onBl_bl, andT, orT, notT, andV, orV, notV, tupM, lstM, toDs, toD, asD_d, asD_new, frzW_d, newT, newL, slM, slW, someO, noneO, ixW, addW, subW, mulW, modW, cmpW, negW, lenW, intW, tabW, isNonB, isNonW, isNon_d, List.map_cons, List.map_nil, List.length_cons, List.length_nil, List.replicate, List.append_nil, List.nil_append, List.cons_append, List.getElem?_cons_zero, List.getElem?_cons_succ, List.set_cons_zero, List.set_cons_succ, Nat.reduceAdd, Nat.reduceSub, if_true, if_false, ite_true, ite_false, Bool.not_true, Bool.not_false, Bool.and_true, Bool.and_false, Bool.false_eq_true, reduceIte, fin_same, finE_same, fin_new, atI_0, atI_1, atI_2, eqW_ofs, look_ofs, look_nil, dspC, newDc, inW, Option.isSome_some, Option.isSome_none, itM, forM, items_dl, items_dt, methL, methD, arg0, arg1, arg2, appendW, popW, listW, get_new, set_new, isLst_new, pow109, String.reduceBEq, String.reduceEq, Bool.false_or, Bool.true_or, Bool.or_false, Bool.or_true]) (by omega)]
    simp only [Res.bind_ok]
    rw [e]
    simp only [szs, fnM, rawM, seqM, ifM, tvM, truM, binM, unM, appM, consA, nilA, varM, conM, retM, retN, asgM, expM, raiseM, passS, callF, app1, app2, noExc, isExc_d, isExc_c, bindS_ok, bindS_err, bindS_stuck, Res.bind_ok, Res.bind_err, Res.bind_stuck, onBl_bl, andT, orT, notT, andV, orV, notV, tupM, lstM, toDs, toD, asD_d, asD_new, frzW_d, newT, newL, slM, slW, someO, noneO, ixW, addW, subW, mulW, modW, cmpW, negW, lenW, intW, tabW, isNonB, isNonW, isNon_d, List.map_cons, List.map_nil, List.length_cons, List.length_nil, List.replicate, List.append_nil, List.nil_append, List.cons_append, List.getElem?_cons_zero, List.getElem?_cons_succ, List.set_cons_zero, List.set_cons_succ, Nat.reduceAdd, Nat.reduceSub, if_true, if_false, ite_true, ite_false, Bool.not_true, Bool.not_false, Bool.and_true, Bool.and_false, Bool.false_eq_true, reduceIte, fin_same, finE_same, fin_new, atI_0, atI_1, atI_2, eqW_ofs, look_ofs, look_nil, dspC, newDc, inW, Option.isSome_some, Option.isSome_none, itM, forM, items_dl, items_dt, methL, methD, arg0, arg1, arg2, appendW, popW, listW, get_new, set_new, isLst_new, pow109, String.reduceBEq, String.reduceEq, Bool.false_or, Bool.true_or, Bool.or_false, Bool.or_true, sz, tupleW]
  unfold s_kinds_2 b_kinds_2
  by_cases hb : b = 7
  · subst hb
    obtain ⟨ks, hks, e⟩ := tail (4 + a * 18).toNat (by omega)
    rw [Int.toNat_of_nonneg (by omega)] at e
    refine ⟨ks, t + 1 + 1 + (4 + a * 18), by omega, by omega, by omega, (fnM_ret rfl ?_).trans (fin_set2 _ _ _ _ _)⟩
    rw [seq_nx (e := [some (.d (.scr ns)), some (.c k), some (.d (.int a)), none]) (s := st.set k (tc (t + 1))) (by simp only [szs, fnM, rawM, seqM, ifM, tvM, truM, binM, unM, appM, consA, nilA, varM, conM, retM, retN, asgM, expM, raiseM, passS, callF, app1, app2, noExc, isExc_d, isExc_c, bindS_ok, bindS_err, bindS_stuck, Res.bind_ok, Res.bind_err, Res.bind_stuck, onBl_bl, andT, orT, notT, andV, orV, notV, tupM, lstM, toDs, toD, asD_d, asD_new, frzW_d, newT, newL, slM, slW, someO, noneO, ixW, addW, subW, mulW, modW, cmpW, negW, lenW, intW, tabW, isNonB, isNonW, isNon_d, List.map_cons, List.map_nil, List.length_cons, List.length_nil, List.replicate, List.append_nil, List.nil_append, List.cons_append, List.getElem?_cons_zero, List.getElem?_cons_succ, List.set_cons_zero, List.set_cons_succ, Nat.reduceAdd, Nat.reduceSub, if_true, if_false, ite_true, ite_false, Bool.not_true, Bool.not_false, Bool.and_true, Bool.and_false, Bool.false_eq_true, reduceIte, fin_same, finE_same, fin_new, atI_0, atI_1, atI_2, eqW_ofs, look_ofs, look_nil, dspC, newDc, inW, Option.isSome_some, Option.isSome_none, itM, forM, items_dl, items_dt, methL, methD, arg0, arg1, arg2, appendW, popW, listW, get_new, set_new, isLst_new, pow109, String.reduceBEq, String.reduceEq, Bool.false_or, Bool.true_or, Bool.or_false, Bool.or_true, ea])]
    rw [seq_nx (e := [some (.d (.scr ns)), some (.c k), some (.d (.int (4 + a * 18))), none]) (s := st.set k (tc (t + 1 + 1))) (by simp only [szs, fnM, rawM, seqM, ifM, tvM, truM, binM, unM, appM, consA, nilA, varM, conM, retM, retN, asgM, expM, raiseM, passS, callF, app1, app2, noExc, isExc_d, isExc_c, bindS_ok, bindS_err, bindS_stuck, Res.bind_ok, Res.bind_err, Res.bind_stuck, onBl_bl, andT, orT, notT, andV, orV, notV, tupM, lstM, toDs, toD, asD_d, asD_new, frzW_d, newT, newL, slM, slW, someO, noneO, ixW, addW, subW, mulW, modW, cmpW, negW, lenW, intW, tabW, isNonB, isNonW, isNon_d, List.map_cons, List.map_nil, List.length_cons, List.length_nil, List.replicate, List.append_nil, List.nil_append, List.cons_append, List.getElem?_cons_zero, List.getElem?_cons_succ, List.set_cons_zero, List.set_cons_succ, Nat.reduceAdd, Nat.reduceSub, if_true, if_false, ite_true, ite_false, Bool.not_true, Bool.not_false, Bool.and_true, Bool.and_false, Bool.false_eq_true, reduceIte, fin_same, finE_same, fin_new, atI_0, atI_1, atI_2, eqW_ofs, look_ofs, look_nil, dspC, newDc, inW, Option.isSome_some, Option.isSome_none, itM, forM, items_dl, items_dt, methL, methD, arg0, arg1, arg2, appendW, popW, listW, get_new, set_new, isLst_new, pow109, String.reduceBEq, String.reduceEq, Bool.false_or, Bool.true_or, Bool.or_false, Bool.or_true, eb, eqW_int, beq_self_eq_true, mulOk_l a0 (show a ≤ 1000000000000000 by omega)])]
    exact e
  · have hb' : (b == 7) = false := by simpa using hb
    obtain ⟨ks, hks, e⟩ := tail a.toNat (by omega)
    rw [Int.toNat_of_nonneg (by omega)] at e
    refine ⟨ks, t + 1 + 1 + a, by omega, by omega, by omega, (fnM_ret rfl ?_).trans (fin_set2 _ _ _ _ _)⟩
    rw [seq_nx (e := [some (.d (.scr ns)), some (.c k), some (.d (.int a)), none]) (s := st.set k (tc (t + 1))) (by simp only [szs, fnM, rawM, seqM, ifM, tvM, truM, binM, unM, appM, consA, nilA, varM, conM, retM, retN, asgM, expM, raiseM, passS, callF, app1, app2, noExc, isExc_d, isExc_c, bindS_ok, bindS_err, bindS_stuck, Res.bind_ok, Res.bind_err, Res.bind_stuck, onBl_bl, andT, orT, notT, andV, orV, notV, tupM, lstM, toDs, toD, asD_d, asD_new, frzW_d, newT, newL, slM, slW, someO, noneO, ixW, addW, subW, mulW, modW, cmpW, negW, lenW, intW, tabW, isNonB, isNonW, isNon_d, List.map_cons, List.map_nil, List.length_cons, List.length_nil, List.replicate, List.append_nil, List.nil_append, List.cons_append, List.getElem?_cons_zero, List.getElem?_cons_succ, List.set_cons_zero, List.set_cons_succ, Nat.reduceAdd, Nat.reduceSub, if_true, if_false, ite_true, ite_false, Bool.not_true, Bool.not_false, Bool.and_true, Bool.and_false, Bool.false_eq_true, reduceIte, fin_same, finE_same, fin_new, atI_0, atI_1, atI_2, eqW_ofs, look_ofs, look_nil, dspC, newDc, inW, Option.isSome_some, Option.isSome_none, itM, forM, items_dl, items_dt, methL, methD, arg0, arg1, arg2, appendW, popW, listW, get_new, set_new, isLst_new, pow109, String.reduceBEq, String.reduceEq, Bool.false_or, Bool.true_or, Bool.or_false, Bool.or_true, ea])]
    rw [seq_nx (e := [some (.d (.scr ns)), some (.c k), some (.d (.int a)), none]) (s := st.set k (tc (t + 1 + 1))) (by simp only [szs, fnM, rawM, seqM, ifM, tvM, truM, binM, unM, appM, consA, nilA, varM, conM, retM, retN, asgM, expM, raiseM, passS, callF, app1, app2, noExc, isExc_d, isExc_c, bindS_ok, bindS_err, bindS_stuck, Res.bind_ok, Res.bind_err, Res.bind_stuck, onBl_bl, andT, orT, notT, andV, orV, notV, tupM, lstM, toDs, toD, asD_d, asD_new, frzW_d, newT, newL, slM, slW, someO, noneO, ixW, addW, subW, mulW, modW, cmpW, negW, lenW, intW, tabW, isNonB, isNonW, isNon_d, List.map_cons, List.map_nil, List.length_cons, List.length_nil, List.replicate, List.append_nil, List.nil_append, List.cons_append, List.getElem?_cons_zero, List.getElem?_cons_succ, List.set_cons_zero, List.set_cons_succ, Nat.reduceAdd, Nat.reduceSub, if_true, if_false, ite_true, ite_false, Bool.not_true, Bool.not_false, Bool.and_true, Bool.and_false, Bool.false_eq_true, reduceIte, fin_same, finE_same, fin_new, atI_0, atI_1, atI_2, eqW_ofs, look_ofs, look_nil, dspC, newDc, inW, Option.isSome_some, Option.isSome_none, itM, forM, items_dl, items_dt, methL, methD, arg0, arg1, arg2, appendW, popW, listW, get_new, set_new, isLst_new, pow109, String.reduceBEq, String.reduceEq, Bool.false_or, Bool.true_or, Bool.or_false, Bool.or_true, eb, eqW_int, hb'])]
    exact e
theorem par_k04 : ProgPar s_kinds_2 nilA (varM 4) [] where
  kinds := fun ns k t st hk h0 h1 => kinds_2_ok ns k t st hk h0 h1
  rest := ⟨[], fun env st => rfl, fun st => rfl⟩
  len := by decide
  val env st i o h := by simp only [szs, fnM, rawM, seqM, ifM, tvM, truM, binM, unM, appM, consA, nilA, varM, conM, retM, retN, asgM, expM, raiseM, passS, callF, app1, app2, noExc, isExc_d, isExc_c, bindS_ok, bindS_err, bindS_stuck, Res.bind_ok, Res.bind_err, Res.bind_stuck, onBl_bl, andT, orT, notT, andV, orV, notV, tupM, lstM, toDs, toD, asD_d, asD_new, frzW_d, newT, newL, slM, slW, someO, noneO, ixW, addW, subW, mulW, modW, cmpW, negW, lenW, intW, tabW, isNonB, isNonW, isNon_d, List.map_cons, List.map_nil, List.length_cons, List.length_nil, List.replicate, List.append_nil, List.nil_append, List.cons_append, List.getElem?_cons_zero, List.getElem?_cons_succ, List.set_cons_zero, List.set_cons_succ, Nat.reduceAdd, Nat.reduceSub, if_true, if_false, ite_true, ite_false, Bool.not_true, Bool.not_false, Bool.and_true, Bool.and_false, Bool.false_eq_true, reduceIte, fin_same, finE_same, fin_new, atI_0, atI_1, atI_2, eqW_ofs, look_ofs, look_nil, dspC, newDc, inW, Option.isSome_some, Option.isSome_none, itM, forM, items_dl, items_dt, methL, methD, arg0, arg1, arg2, appendW, popW, listW, get_new, set_new, isLst_new, pow109, String.reduceBEq, String.reduceEq, Bool.false_or, Bool.true_or, Bool.or_false, Bool.or_true, h]
theorem told_3_ok (ns : List Int) (k : Nat) (t : Int) (st : Store) (hk : k < st.length) (h0 : 0 ≤ t) (h1 : t ≤ 400000) :
    ∃ (P : Td) (t' : Int), TdOk P ∧ P.length ≤ 12 ∧ 1 ≤ P.length ∧ t ≤ t' ∧ t' ≤ t + 4000 ∧ s_told_3 [.d (.scr ns), .c k] (st.set k (tc t)) = .ok (.c st.length) (st.set k (tc t') ++ [.dct (encT [] P)]) :=
  progAll_ok ns k t st hk h0 h1 par_k04
end Py

namespace Py
open PySem L2
theorem lookA_map {α β : Type} (f : α → β) (k : Str) : ∀ (kvs : List (Str × α)), lookA k (kvs.map fun p => (p.1, f p.2)) = (lookA k kvs).map f
  | [] => rfl
  | (k', v) :: r => by
    show (if k' = k then some (f v) else lookA k (r.map fun p => (p.1, f p.2))) = Option.map f (if k' = k then some v else lookA k r)
    by_cases h : k' = k
    · rw [if_pos h, if_pos h]; rfl
    · rw [if_neg h, if_neg h]; exact lookA_map f k r
abbrev toT (P : Prg) : Td := P.map fun p => (p.1, (p.2.ins, p.2.outs))
theorem telP_toT (P : Prg) : telP P = Tf (toT P) := by
  funext n
  show (lookA n P).map _ = lookA n (P.map fun p => (p.1, (p.2.ins, p.2.outs)))
  rw [lookA_map (fun b : Blk => (b.ins, b.outs))]
theorem toT_keys (P : Prg) : (toT P).map (·.1) = P.map (·.1) := by rw [List.map_map]; rfl
noncomputable abbrev gpBody : MS := (seqM (asgM 7 (varM 3))
  (seqM (ifM (tvM (binM (eqW false) (varM 4) (conM (.int 1))))
  (asgM 7 (slM false (varM 3) (someO (binM (addW false) (varM 6) (conM (.int 1)))) noneO))
  passS)
  (seqM (asgM 8 (callF s_good_rows (consA (varM 0) (consA (varM 1) (consA (varM 2) (consA (binM ixW (varM 3) (varM 6)) (consA (varM 7) nilA)))))))
  (setDM (varM 5) (binM ixW (varM 3) (varM 6)) (tupM (consA (binM ixW (binM ixW (varM 2) (binM ixW (varM 3) (varM 6))) (conM (.int 0))) (consA (binM ixW (binM ixW (varM 2) (binM ixW (varM 3) (varM 6))) (conM (.int 1))) (consA (varM 8) nilA))))))))
section
variable {st : Store} {k : Nat} (hk : k < st.length) (ns : List Int) {T : Td} (hT : TdOk T)
include hk
abbrev PPs (st : Store) (k : Nat) (P : Prg) (t : Int) : Store := (st ++ [Cell.dct (encP P)]).set k (tc t)
abbrev GPE (ns : List Int) (k : Nat) (T : Td) (d : Int) (j : Nat) (x6 x7 x8 : Option W) : Env :=
  [some (.d (.scr ns)), some (.c k), some (.d (.dct (encT [] T))), some (.d (.lst (encS (T.map (·.1))))), some (.d (.int d)), some (.c j), x6, x7, x8]
include hT
theorem gp_step (hl : T.length ≤ 12) (d : Int) (j : Nat) (hj : j < T.length) (P : Prg) (hP : toT P = T.take j) (hG : ∀ p ∈ P, BlkOk p.2 ∧ p.2.rows.length ≤ 800 ∧ GoodB (Tf T) p.2) (t : Int) (h0 : 0 ≤ t) (h1 : t ≤ 200000) (x7 x8 : Option W) :
    ∃ (P' : Prg) (t' : Int) (y7 y8 : Option W), toT P' = T.take (j + 1) ∧ (∀ p ∈ P', BlkOk p.2 ∧ p.2.rows.length ≤ 800 ∧ GoodB (Tf T) p.2) ∧ t ≤ t' ∧ t' ≤ t + 1300 ∧
      gpBody (GPE ns k T d st.length (some (.d (.int j))) x7 x8) (PPs st k P t) = .nx (GPE ns k T d st.length (some (.d (.int j))) y7 y8) (PPs st k P' t') := by
  have hmem : T[j] ∈ T := List.getElem_mem hj
  have hlk0 : lookA T[j].1 T = some T[j].2 := lookA_of hT.nd hmem
  have hlk : look T[j].1 (encT [] T) = some (.tup [.tup (encK T[j].2.1), .tup (encK T[j].2.2)]) := by rw [lookT, hlk0]; rfl
  have hat : atI (encS (T.map (·.1))) (j : Int) = some (.str T[j].1) := by
    rw [atI_nat, List.getElem?_map, List.getElem?_map, List.getElem?_eq_getElem hj]; rfl
  have hNall : ∀ n ∈ T.map (·.1), NmOk n ∧ ∃ io, lookA n T = some io := fun n hn => by
    obtain ⟨p, hp, rfl⟩ := List.mem_map.mp hn
    exact ⟨hT.nm p hp, p.2, lookA_of hT.nd hp⟩
  have hPl : P.length = j := by
    have := congrArg List.length hP
    rw [List.length_map, List.length_take] at this; omega
  obtain ⟨N, hN, hN2, e1⟩ : ∃ N : List Str, (∀ n ∈ N, NmOk n ∧ ∃ io, lookA n T = some io) ∧ N.length ≤ 100 ∧ ∀ rest : MS, seqM (asgM 7 (varM 3)) (seqM (ifM (tvM (binM (eqW false) (varM 4) (conM (.int 1)))) (asgM 7 (slM false (varM 3) (someO (binM (addW false) (varM 6) (conM (.int 1)))) noneO)) passS) rest) (GPE ns k T d st.length (some (.d (.int j))) x7 x8) (PPs st k P t)
      = rest (GPE ns k T d st.length (some (.d (.int j))) (some (.d (.lst (encS N)))) x8) (PPs st k P t) := by
    by_cases hd : d = 1
    · subst hd
      have hc : cut (encS (T.map (·.1))) (some ((j : Int) + 1)) none = encS ((T.map (·.1)).drop (j + 1)) := by
        have := cut_from (encS (T.map (·.1))) (j + 1)
        rw [show ((j : Int) + 1) = ((j + 1 : Nat) : Int) from by omega, this]; simp
      have hz : (encS ((T.map (·.1)).drop (j + 1))).length ≤ sizeLine := small (by rw [List.length_map, List.length_drop, List.length_map]; omega)
      refine ⟨(T.map (·.1)).drop (j + 1), fun n hn => hNall n (List.mem_of_mem_drop hn), by rw [List.length_drop, List.length_map]; omega, fun rest => ?_⟩
      refine (seq_nx (e := GPE ns k T 1 st.length (some (.d (.int j))) (some (.d (.lst (encS (T.map (·.1)))))) x8) (s := PPs st k P t) (by simp only [szs, fnM, rawM, seqM, ifM, tvM, truM, binM, unM, appM, consA, nilA, varM, conM, retM, retN, asgM, expM, raiseM, passS, callF, app1, app2, noExc, isExc_d, isExc_c, bindS_ok, bindS_err, bindS_stuck, Res.bind_ok, Res.bind_err, Res.bind_stuck, onBl_bl, andT, orT, notT, andV, orV, notV, tupM, lstM, toDs, toD, asD_d, asD_new, frzW_d, newT, newL, slM, slW, someO, noneO, ixW, addW, subW, mulW, modW, cmpW, negW, lenW, intW, tabW, isNonB, isNonW, isNon_d, List.map_cons, List.map_nil, List.length_cons, List.length_nil, List.replicate, List.append_nil, List.nil_append, List.cons_append, List.getElem?_cons_zero, List.getElem?_cons_succ, List.set_cons_zero, List.set_cons_succ, Nat.reduceAdd, Nat.reduceSub, if_true, if_false, ite_true, ite_false, Bool.not_true, Bool.not_false, Bool.and_true, Bool.and_false, Bool.false_eq_true, reduceIte, fin_same, finE_same, fin_new, atI_0, atI_1, atI_2, eqW_ofs, look_ofs, look_nil, dspC, newDc, inW, Option.isSome_some, Option.isSome_none, itM, forM, items_dl, items_dt, methL, methD, arg0, arg1, arg2, appendW, popW, listW, get_new, set_new, isLst_new, pow109, String.reduceBEq, String.reduceEq, Bool.false_or, Bool.true_or, Bool.or_false, Bool.or_true])).trans ?_
      refine seq_nx ?_
      simp only [szs, fnM, rawM, seqM, ifM, tvM, truM, binM, unM, appM, consA, nilA, varM, conM, retM, retN, asgM, expM, raiseM, passS, callF, app1, app2, noExc, isExc_d, isExc_c, bindS_ok, bindS_err, bindS_stuck, Res.bind_ok, Res.bind_err, Res.bind_stuck, onBl_bl, andT, orT, notT, andV, orV, notV, tupM, lstM, toDs, toD, asD_d, asD_new, frzW_d, newT, newL, slM, slW, someO, noneO, ixW, addW, subW, mulW, modW, cmpW, negW, lenW, intW, tabW, isNonB, isNonW, isNon_d, List.map_cons, List.map_nil, List.length_cons, List.length_nil, List.replicate, List.append_nil, List.nil_append, List.cons_append, List.getElem?_cons_zero, List.getElem?_cons_succ, List.set_cons_zero, List.set_cons_succ, Nat.reduceAdd, Nat.reduceSub, if_true, if_false, ite_true, ite_false, Bool.not_true, Bool.not_false, Bool.and_true, Bool.and_false, Bool.false_eq_true, reduceIte, fin_same, finE_same, fin_new, atI_0, atI_1, atI_2, eqW_ofs, look_ofs, look_nil, dspC, newDc, inW, Option.isSome_some, Option.isSome_none, itM, forM, items_dl, items_dt, methL, methD, arg0, arg1, arg2, appendW, popW, listW, get_new, set_new, isLst_new, pow109, String.reduceBEq, String.reduceEq, Bool.false_or, Bool.true_or, Bool.or_false, Bool.or_true, eqW_int, beq_self_eq_true, hc, hz]
    · have hd' : (d == 1) = false := by simpa using hd
      refine ⟨T.map (·.1), hNall, by rw [List.length_map]; omega, fun rest => ?_⟩
      refine (seq_nx (e := GPE ns k T d st.length (some (.d (.int j))) (some (.d (.lst (encS (T.map (·.1)))))) x8) (s := PPs st k P t) (by simp only [szs, fnM, rawM, seqM, ifM, tvM, truM, binM, unM, appM, consA, nilA, varM, conM, retM, retN, asgM, expM, raiseM, passS, callF, app1, app2, noExc, isExc_d, isExc_c, bindS_ok, bindS_err, bindS_stuck, Res.bind_ok, Res.bind_err, Res.bind_stuck, onBl_bl, andT, orT, notT, andV, orV, notV, tupM, lstM, toDs, toD, asD_d, asD_new, frzW_d, newT, newL, slM, slW, someO, noneO, ixW, addW, subW, mulW, modW, cmpW, negW, lenW, intW, tabW, isNonB, isNonW, isNon_d, List.map_cons, List.map_nil, List.length_cons, List.length_nil, List.replicate, List.append_nil, List.nil_append, List.cons_append, List.getElem?_cons_zero, List.getElem?_cons_succ, List.set_cons_zero, List.set_cons_succ, Nat.reduceAdd, Nat.reduceSub, if_true, if_false, ite_true, ite_false, Bool.not_true, Bool.not_false, Bool.and_true, Bool.and_false, Bool.false_eq_true, reduceIte, fin_same, finE_same, fin_new, atI_0, atI_1, atI_2, eqW_ofs, look_ofs, look_nil, dspC, newDc, inW, Option.isSome_some, Option.isSome_none, itM, forM, items_dl, items_dt, methL, methD, arg0, arg1, arg2, appendW, popW, listW, get_new, set_new, isLst_new, pow109, String.reduceBEq, String.reduceEq, Bool.false_or, Bool.true_or, Bool.or_false, Bool.or_true])).trans ?_
      refine seq_nx ?_
      simp only [szs, fnM, rawM, seqM, ifM, tvM, truM, binM, unM, appM, consA, nilA, varM, conM, retM, retN, asgM, expM, raiseM, passS, callF, app1, app2, noExc, isExc_d, isExc_c, bindS_ok, bindS_err, bindS_stuck, Res.bind_ok, Res.bind_err, Res.bind_stuck, onBl_bl, andT, orT, notT, andV, orV, notV, tupM, lstM, toDs, toD, asD_d, asD_new, frzW_d, newT, newL, slM, slW, someO, noneO, ixW, addW, subW, mulW, modW, cmpW, negW, lenW, intW, tabW, isNonB, isNonW, isNon_d, List.map_cons, List.map_nil, List.length_cons, List.length_nil, List.replicate, List.append_nil, List.nil_append, List.cons_append, List.getElem?_cons_zero, List.getElem?_cons_succ, List.set_cons_zero, List.set_cons_succ, Nat.reduceAdd, Nat.reduceSub, if_true, if_false, ite_true, ite_false, Bool.not_true, Bool.not_false, Bool.and_true, Bool.and_false, Bool.false_eq_true, reduceIte, fin_same, finE_same, fin_new, atI_0, atI_1, atI_2, eqW_ofs, look_ofs, look_nil, dspC, newDc, inW, Option.isSome_some, Option.isSome_none, itM, forM, items_dl, items_dt, methL, methD, arg0, arg1, arg2, appendW, popW, listW, get_new, set_new, isLst_new, pow109, String.reduceBEq, String.reduceEq, Bool.false_or, Bool.true_or, Bool.or_false, Bool.or_true, eqW_int, hd']
  obtain ⟨R, t', r1, r2, r3, r4, r5, er⟩ := good_rows_ok (st := st ++ [Cell.dct (encP P)]) (k := k) (by rw [List.length_append]; omega) ns hT t h0 (by omega) T[j].1 T[j].2.1 T[j].2.2 hlk0 N hN hN2
  have hsm := hT.small _ _ _ hlk0
  have hnew : ∀ q ∈ P, q.1 ≠ T[j].1 := fun q hq e => by
    have hq2 : q.1 ∈ (T.take j).map (·.1) := by rw [← hP, toT_keys]; exact List.mem_map.mpr ⟨q, hq, rfl⟩
    have nd := hT.nd
    rw [← List.take_append_drop j T, List.map_append, List.nodup_append] at nd
    refine nd.2.2 q.1 hq2 T[j].1 ?_ e
    exact List.mem_map.mpr ⟨T[j], by rw [List.drop_eq_getElem_cons hj]; exact List.mem_cons_self, rfl⟩
  have hsz : (encP P).length < sizeLine := lt_line (by rw [List.length_map]; omega)
  refine ⟨P ++ [(T[j].1, ⟨T[j].2.1, T[j].2.2, R⟩)], t', some (.d (.lst (encS N))), some (.d (.lst (encR R))), ?_, ?_, r4, r5, ?_⟩
  · have hP' : P.map (fun p => (p.1, (p.2.ins, p.2.outs))) = T.take j := hP
    show (P ++ _).map (fun p : Str × Blk => (p.1, (p.2.ins, p.2.outs))) = _
    rw [List.map_append, hP', List.take_succ_eq_append_getElem hj]; rfl
  · intro p hp
    rcases List.mem_append.mp hp with h | h
    · exact hG p h
    · rw [List.mem_singleton] at h; subst h
      exact ⟨⟨hsm.1, hsm.2, by show R.length ≤ 3000; omega, r1⟩, r2, r3⟩
  · refine (e1 _).trans ?_
    refine (seq_nx (e := GPE ns k T d st.length (some (.d (.int j))) (some (.d (.lst (encS N)))) (some (.d (.lst (encR R))))) (s := PPs st k P t') (by simp only [szs, fnM, rawM, seqM, ifM, tvM, truM, binM, unM, appM, consA, nilA, varM, conM, retM, retN, asgM, expM, raiseM, passS, callF, app1, app2, noExc, isExc_d, isExc_c, bindS_ok, bindS_err, bindS_stuck, Res.bind_ok, Res.bind_err, Res.bind_stuck, onBl_bl, andT, orT, notT, andV, orV, notV, tupM, lstM, toDs, toD, asD_d, asD_new, frzW_d, newT, newL, slM, slW, someO, noneO, ixW, addW, subW, mulW, modW, cmpW, negW, lenW, intW, tabW, isNonB, isNonW, isNon_d, List.map_cons, List.map_nil, List.length_cons, List.length_nil, List.replicate, List.append_nil, List.nil_append, List.cons_append, List.getElem?_cons_zero, List.getElem?_cons_succ, List.set_cons_zero, List.set_cons_succ, Nat.reduceAdd, Nat.reduceSub, if_true, if_false, ite_true, ite_false, Bool.not_true, Bool.not_false, Bool.and_true, Bool.and_false, Bool.false_eq_true, reduceIte, fin_same, finE_same, fin_new, atI_0, atI_1, atI_2, eqW_ofs, look_ofs, look_nil, dspC, newDc, inW, Option.isSome_some, Option.isSome_none, itM, forM, items_dl, items_dt, methL, methD, arg0, arg1, arg2, appendW, popW, listW, get_new, set_new, isLst_new, pow109, String.reduceBEq, String.reduceEq, Bool.false_or, Bool.true_or, Bool.or_false, Bool.or_true, hat, er])).trans ?_
    have hput := putP P T[j].1 ⟨T[j].2.1, T[j].2.2, R⟩
    rw [putA_new hnew] at hput
    have hput' : putD (encP P) T[j].1 (.tup [.tup (encK T[j].2.1), .tup (encK T[j].2.2), .lst (encR R)]) = encP (P ++ [(T[j].1, ⟨T[j].2.1, T[j].2.2, R⟩)]) := hput
    simp only [szs, fnM, rawM, seqM, ifM, tvM, truM, binM, unM, appM, consA, nilA, varM, conM, retM, retN, asgM, expM, raiseM, passS, callF, app1, app2, noExc, isExc_d, isExc_c, bindS_ok, bindS_err, bindS_stuck, Res.bind_ok, Res.bind_err, Res.bind_stuck, onBl_bl, andT, orT, notT, andV, orV, notV, tupM, lstM, toDs, toD, asD_d, asD_new, frzW_d, newT, newL, slM, slW, someO, noneO, ixW, addW, subW, mulW, modW, cmpW, negW, lenW, intW, tabW, isNonB, isNonW, isNon_d, List.map_cons, List.map_nil, List.length_cons, List.length_nil, List.replicate, List.append_nil, List.nil_append, List.cons_append, List.getElem?_cons_zero, List.getElem?_cons_succ, List.set_cons_zero, List.set_cons_succ, Nat.reduceAdd, Nat.reduceSub, if_true, if_false, ite_true, ite_false, Bool.not_true, Bool.not_false, Bool.and_true, Bool.and_false, Bool.false_eq_true, reduceIte, fin_same, finE_same, fin_new, atI_0, atI_1, atI_2, eqW_ofs, look_ofs, look_nil, dspC, newDc, inW, Option.isSome_some, Option.isSome_none, itM, forM, items_dl, items_dt, methL, methD, arg0, arg1, arg2, appendW, popW, listW, get_new, set_new, isLst_new, pow109, String.reduceBEq, String.reduceEq, Bool.false_or, Bool.true_or, Bool.or_false, Bool.or_true, setDM, hat, hlk, pg hk, hsz, ps hk, hput']
theorem gp_loop (hl : T.length ≤ 12) (d : Int) (t : Int) (h0 : 0 ≤ t) (h1 : t ≤ 100000) :
    ∃ (P : Prg) (t' : Int) (y6 y7 y8 : Option W), toT P = T ∧ (∀ p ∈ P, BlkOk p.2 ∧ p.2.rows.length ≤ 800 ∧ GoodB (Tf T) p.2) ∧ t ≤ t' ∧ t' ≤ t + 1300 * 12 ∧
      loopS (.name 6) gpBody (uptoD T.length) (GPE ns k T d st.length none none none) (PPs st k [] t) = .nx (GPE ns k T d st.length y6 y7 y8) (PPs st k P t') := by
  obtain ⟨env', st', e, j, P, t', y6, y7, y8, p1, p2, p3, p4, p5, p6, p7⟩ := loop_inv (t := .name 6) (body := gpBody)
    (fun ys env s => ∃ (j : Nat) (P : Prg) (t' : Int) (y6 y7 y8 : Option W), ys = (uptoD T.length).drop j ∧ j ≤ T.length ∧ toT P = T.take j ∧ (∀ p ∈ P, BlkOk p.2 ∧ p.2.rows.length ≤ 800 ∧ GoodB (Tf T) p.2) ∧ (t ≤ t' ∧ t' ≤ t + 1300 * j) ∧ env = GPE ns k T d st.length y6 y7 y8 ∧ s = PPs st k P t')
    (uptoD T.length) (GPE ns k T d st.length none none none) (PPs st k [] t)
    (fun y ys env s ⟨j, P, t', y6, y7, y8, p1, p2, p3, p4, p5, p6, p7⟩ => by
      subst p6 p7
      have hjl : j < T.length := by
        rcases Nat.lt_or_ge j T.length with h | h
        · exact h
        · rw [List.drop_of_length_le (by simp [uptoD]; omega)] at p1; cases p1
      have hu : j < (uptoD T.length).length := by simp [uptoD]; omega
      rw [List.drop_eq_getElem_cons hu] at p1
      obtain ⟨rfl, rfl⟩ := List.cons.inj p1
      have hy : (uptoD T.length)[j] = .int (j : Int) := by simp [uptoD]
      obtain ⟨P', t2, z7, z8, q1, q2, q3, q4, e⟩ := gp_step hk ns hT hl d j hjl P p3 p4 t' (by omega) (by omega) y7 y8
      rw [hy]
      exact ⟨_, _, _, rfl, e, j + 1, P', t2, _, z7, z8, rfl, by omega, q1, q2, ⟨by omega, by omega⟩, rfl, rfl⟩)
    ⟨0, [], t, none, none, none, by simp, by omega, by simp, by simp, ⟨by omega, by omega⟩, rfl, rfl⟩
  subst p6 p7
  have hj : j = T.length := by
    have := congrArg List.length p1
    rw [List.length_drop] at this
    simp [uptoD] at this
    omega
  subst hj
  rw [List.take_length] at p3
  exact ⟨P, t', y6, y7, y8, p3, p4, by omega, by omega, e⟩
end
/-- a good program -/
structure GoodP (P : Prg) : Prop where
  ok : PrgOk P
  lo : 1 ≤ P.length
  hi : P.length ≤ 12
  rw : ∀ p ∈ P, p.2.rows.length ≤ 800
  good : ∀ p ∈ P, GoodB (telP P) p.2
theorem good_program_ok (ns : List Int) (k : Nat) (t : Int) (st : Store) (hk : k < st.length) (h0 : 0 ≤ t) (h1 : t ≤ 50000) :
    ∃ (P : Prg) (t' : Int), GoodP P ∧ t ≤ t' ∧ t' ≤ t + 20000 ∧ s_good_program [.d (.scr ns), .c k] (st.set k (tc t)) = .ok (.c st.length) (st.set k (tc t') ++ [.dct (encP P)]) := by
  obtain ⟨T, t1, hT, hl, hl1, r1, r2, et⟩ := told_3_ok ns k t st hk h0 (by omega)
  let F : Cell := .frz (.dct (encT [] T))
  have hk2 : k < (st ++ [F]).length := by rw [List.length_append]; omega
  have hN : ((encT [] T).map fun p => D.str p.1) = encS (T.map (·.1)) := names_T _ _
  have hz : (encS (T.map (·.1))).length ≤ sizeLine := small (by rw [List.length_map, List.length_map]; omega)
  obtain ⟨d, d0, d1, ed⟩ := draw2 ns k t1 2 (st ++ [F]) hk2 (by omega) (by omega) (by decide)
  obtain ⟨P, t', y6, y7, y8, q1, q2, q3, q4, eL⟩ := gp_loop hk2 ns hT hl d (t1 + 1) (by omega) (by omega)
  have hkeys : P.map (·.1) = T.map (·.1) := by rw [← toT_keys, q1]
  have hPl : P.length = T.length := by have := congrArg List.length q1; rwa [List.length_map] at this
  have hnm : ∀ p ∈ P, NmOk p.1 := fun p hp => by
    have : p.1 ∈ T.map (·.1) := by rw [← hkeys]; exact List.mem_map.mpr ⟨p, hp, rfl⟩
    obtain ⟨q, hq, e⟩ := List.mem_map.mp this
    rw [← e]; exact hT.nm q hq
  refine ⟨P, t', ⟨⟨by rw [hkeys]; exact hT.nd, hnm, fun p hp => (q2 p hp).1⟩, by omega, by omega, fun p hp => (q2 p hp).2.1, fun p hp => by rw [telP_toT, q1]; exact (q2 p hp).2.2⟩, by omega, by omega, ?_⟩
  have hsetF : ((st.set k (tc t1) ++ [Cell.dct (encT [] T)]).set st.length F) = (st ++ [F]).set k (tc t1) := by
    rw [List.set_append_left _ _ hk, List.set_append_right _ _ (by rw [List.length_set]; omega), List.length_set]; simp
  have hasD : asD (st.set k (tc t1) ++ [Cell.dct (encT [] T)]) (.c st.length) = some (.dct (encT [] T)) := by
    unfold asD; simp only; rw [List.getElem?_append_right (by rw [List.length_set]; omega), List.length_set]; simp
  have hP0 : (st ++ [F]).set k (tc (t1 + 1)) ++ [Cell.dct []] = PPs (st ++ [F]) k [] (t1 + 1) := by rw [show PPs (st ++ [F]) k [] (t1 + 1) = (st ++ [F]).set k (tc (t1 + 1)) ++ [Cell.dct []] from List.set_append_left _ _ hk2]
  have hll : ((st ++ [F]).set k (tc (t1 + 1))).length = (st ++ [F]).length := List.length_set ..
  refine (fnM_ret (w := .c (st ++ [F]).length) (st' := (st ++ [F, Cell.dct (encP P)]).set k (tc t')) rfl ?_).trans (fin_dct hk (by rw [List.length_append]; omega) ?_)
  · unfold b_good_program
    refine (seq_nx (e := [some (.d (.scr ns)), some (.c k), some (.d (.dct (encT [] T))), none, none, none, none, none, none]) (s := (st ++ [F]).set k (tc t1)) (by
      rw [← hsetF]
      exact asg_ok (fr_ok (by simp only [szs, fnM, rawM, seqM, ifM, tvM, truM, binM, unM, appM, consA, nilA, varM, conM, retM, retN, asgM, expM, raiseM, passS, callF, app1, app2, noExc, isExc_d, isExc_c, bindS_ok, bindS_err, bindS_stuck, Res.bind_ok, Res.bind_err, Res.bind_stuck, onBl_bl, andT, orT, notT, andV, orV, notV, tupM, lstM, toDs, toD, asD_d, asD_new, frzW_d, newT, newL, slM, slW, someO, noneO, ixW, addW, subW, mulW, modW, cmpW, negW, lenW, intW, tabW, isNonB, isNonW, isNon_d, List.map_cons, List.map_nil, List.length_cons, List.length_nil, List.replicate, List.append_nil, List.nil_append, List.cons_append, List.getElem?_cons_zero, List.getElem?_cons_succ, List.set_cons_zero, List.set_cons_succ, Nat.reduceAdd, Nat.reduceSub, if_true, if_false, ite_true, ite_false, Bool.not_true, Bool.not_false, Bool.and_true, Bool.and_false, Bool.false_eq_true, reduceIte, fin_same, finE_same, fin_new, atI_0, atI_1, atI_2, eqW_ofs, look_ofs, look_nil, dspC, newDc, inW, Option.isSome_some, Option.isSome_none, itM, forM, items_dl, items_dt, methL, methD, arg0, arg1, arg2, appendW, popW, listW, get_new, set_new, isLst_new, pow109, String.reduceBEq, String.reduceEq, Bool.false_or, Bool.true_or, Bool.or_false, Bool.or_true, et]) hasD))).trans ?_
    refine (seq_nx (e := [some (.d (.scr ns)), some (.c k), some (.d (.dct (encT [] T))), some (.d (.lst (encS (T.map (·.1))))), none, none, none, none, none]) (s := (st ++ [F]).set k (tc t1)) (by simp only [szs, fnM, rawM, seqM, ifM, tvM, truM, binM, unM, appM, consA, nilA, varM, conM, retM, retN, asgM, expM, raiseM, passS, callF, app1, app2, noExc, isExc_d, isExc_c, bindS_ok, bindS_err, bindS_stuck, Res.bind_ok, Res.bind_err, Res.bind_stuck, onBl_bl, andT, orT, notT, andV, orV, notV, tupM, lstM, toDs, toD, asD_d, asD_new, frzW_d, newT, newL, slM, slW, someO, noneO, ixW, addW, subW, mulW, modW, cmpW, negW, lenW, intW, tabW, isNonB, isNonW, isNon_d, List.map_cons, List.map_nil, List.length_cons, List.length_nil, List.replicate, List.append_nil, List.nil_append, List.cons_append, List.getElem?_cons_zero, List.getElem?_cons_succ, List.set_cons_zero, List.set_cons_succ, Nat.reduceAdd, Nat.reduceSub, if_true, if_false, ite_true, ite_false, Bool.not_true, Bool.not_false, Bool.and_true, Bool.and_false, Bool.false_eq_true, reduceIte, fin_same, finE_same, fin_new, atI_0, atI_1, atI_2, eqW_ofs, look_ofs, look_nil, dspC, newDc, inW, Option.isSome_some, Option.isSome_none, itM, forM, items_dl, items_dt, methL, methD, arg0, arg1, arg2, appendW, popW, listW, get_new, set_new, isLst_new, pow109, String.reduceBEq, String.reduceEq, Bool.false_or, Bool.true_or, Bool.or_false, Bool.or_true, hN, hz])).trans ?_
    refine (seq_nx (e := [some (.d (.scr ns)), some (.c k), some (.d (.dct (encT [] T))), some (.d (.lst (encS (T.map (·.1))))), some (.d (.int d)), none, none, none, none]) (s := (st ++ [F]).set k (tc (t1 + 1))) (by simp only [szs, fnM, rawM, seqM, ifM, tvM, truM, binM, unM, appM, consA, nilA, varM, conM, retM, retN, asgM, expM, raiseM, passS, callF, app1, app2, noExc, isExc_d, isExc_c, bindS_ok, bindS_err, bindS_stuck, Res.bind_ok, Res.bind_err, Res.bind_stuck, onBl_bl, andT, orT, notT, andV, orV, notV, tupM, lstM, toDs, toD, asD_d, asD_new, frzW_d, newT, newL, slM, slW, someO, noneO, ixW, addW, subW, mulW, modW, cmpW, negW, lenW, intW, tabW, isNonB, isNonW, isNon_d, List.map_cons, List.map_nil, List.length_cons, List.length_nil, List.replicate, List.append_nil, List.nil_append, List.cons_append, List.getElem?_cons_zero, List.getElem?_cons_succ, List.set_cons_zero, List.set_cons_succ, Nat.reduceAdd, Nat.reduceSub, if_true, if_false, ite_true, ite_false, Bool.not_true, Bool.not_false, Bool.and_true, Bool.and_false, Bool.false_eq_true, reduceIte, fin_same, finE_same, fin_new, atI_0, atI_1, atI_2, eqW_ofs, look_ofs, look_nil, dspC, newDc, inW, Option.isSome_some, Option.isSome_none, itM, forM, items_dl, items_dt, methL, methD, arg0, arg1, arg2, appendW, popW, listW, get_new, set_new, isLst_new, pow109, String.reduceBEq, String.reduceEq, Bool.false_or, Bool.true_or, Bool.or_false, Bool.or_true, ed])).trans ?_
    refine (seq_nx (e := GPE ns k T d (st ++ [F]).length none none none) (s := PPs (st ++ [F]) k [] (t1 + 1)) (by
      rw [← hP0]
      refine asg_ok ?_
      rw [← hll]
      rfl)).trans ?_
    refine (seq_nx (e := GPE ns k T d (st ++ [F]).length y6 y7 y8) (s := PPs (st ++ [F]) k P t') (by
      unfold forM
      have hlen : ((encS (T.map (·.1))).length : Int) = (T.length : Int) := by rw [List.length_map, List.length_map]
      rw [rng_ok _ _ _ (PPs (st ++ [F]) k [] (t1 + 1)) T.length (by simp only [szs, fnM, rawM, seqM, ifM, tvM, truM, binM, unM, appM, consA, nilA, varM, conM, retM, retN, asgM, expM, raiseM, passS, callF, app1, app2, noExc, isExc_d, isExc_c, bindS_ok, bindS_err, bindS_stuck, Res.bind_ok, Res.bind_err, Res.bind_stuck, onBl_bl, andT, orT, notT, andV, orV, notV, tupM, lstM, toDs, toD, asD_d, asD_new, frzW_d, newT, newL, slM, slW, someO, noneO, ixW, addW, subW, mulW, modW, cmpW, negW, lenW, intW, tabW, isNonB, isNonW, isNon_d, List.map_cons, List.map_nil, List.length_cons, List.length_nil, List.replicate, List.append_nil, List.nil_append, List.cons_append, List.getElem?_cons_zero, List.getElem?_cons_succ, List.set_cons_zero, List.set_cons_succ, Nat.reduceAdd, Nat.reduceSub, if_true, if_false, ite_true, ite_false, Bool.not_true, Bool.not_false, Bool.and_true, Bool.and_false, Bool.false_eq_true, reduceIte, fin_same, finE_same, fin_new, atI_0, atI_1, atI_2, eqW_ofs, look_ofs, look_nil, dspC, newDc, inW, Option.isSome_some, Option.isSome_none, itM, forM, items_dl, items_dt, methL, methD, arg0, arg1, arg2, appendW, popW, listW, get_new, set_new, isLst_new, pow109, String.reduceBEq, String.reduceEq, Bool.false_or, Bool.true_or, Bool.or_false, Bool.or_true, hlen]) (by omega)]
      exact eL)).trans ?_
    rw [show st ++ [F, Cell.dct (encP P)] = (st ++ [F]) ++ [Cell.dct (encP P)] by simp]
    simp only [szs, fnM, rawM, seqM, ifM, tvM, truM, binM, unM, appM, consA, nilA, varM, conM, retM, retN, asgM, expM, raiseM, passS, callF, app1, app2, noExc, isExc_d, isExc_c, bindS_ok, bindS_err, bindS_stuck, Res.bind_ok, Res.bind_err, Res.bind_stuck, onBl_bl, andT, orT, notT, andV, orV, notV, tupM, lstM, toDs, toD, asD_d, asD_new, frzW_d, newT, newL, slM, slW, someO, noneO, ixW, addW, subW, mulW, modW, cmpW, negW, lenW, intW, tabW, isNonB, isNonW, isNon_d, List.map_cons, List.map_nil, List.length_cons, List.length_nil, List.replicate, List.append_nil, List.nil_append, List.cons_append, List.getElem?_cons_zero, List.getElem?_cons_succ, List.set_cons_zero, List.set_cons_succ, Nat.reduceAdd, Nat.reduceSub, if_true, if_false, ite_true, ite_false, Bool.not_true, Bool.not_false, Bool.and_true, Bool.and_false, Bool.false_eq_true, reduceIte, fin_same, finE_same, fin_new, atI_0, atI_1, atI_2, eqW_ofs, look_ofs, look_nil, dspC, newDc, inW, Option.isSome_some, Option.isSome_none, itM, forM, items_dl, items_dt, methL, methD, arg0, arg1, arg2, appendW, popW, listW, get_new, set_new, isLst_new, pow109, String.reduceBEq, String.reduceEq, Bool.false_or, Bool.true_or, Bool.or_false, Bool.or_true]
  · rw [List.getElem?_set_ne (by rw [List.length_append]; omega), List.getElem?_append_right (by rw [List.length_append]; omega), List.length_append]
    simp
end Py

namespace Py
open PySem L2
theorem fin_new_dct (st : Store) (xs : List (Str × D)) : fin st (.c st.length) (st ++ [.dct xs]) = .ok (.c st.length) (st ++ [.dct xs]) := by
  unfold fin
  rw [if_pos]
  · simp
  · exact ⟨by simp, fun k fs hk h => by rwa [List.getElem?_append_left hk] at h⟩
theorem names_P (P : Prg) : ((encP P).map fun p => D.str p.1) = encS (P.map (·.1)) := by
  unfold encP encS; rw [List.map_map, List.map_map]; rfl
theorem fineR {rs : List Rw} (h : ∀ r ∈ rs, r.ok) : fineL (encR rs) = true := by
  induction rs with
  | nil => rfl
  | cons r rs ih =>
    show (r.enc.fine && fineL (encR rs)) = true
    rw [ih fun x hx => h x (List.mem_cons_of_mem _ hx), Bool.and_true]
    have hr := h r List.mem_cons_self
    cases r with
    | plain r =>
      cases r with
      | num v => show (D.fine (.str "num") && (D.fine (.int v) && true)) = true; rw [fine_ofs]; rfl
      | text v => show (D.fine (.str "text") && (PyData.strOk v && true)) = true; rw [fine_ofs]; simp [show PyData.strOk v = true from hr.1]
      | op o => show (D.fine (.str (Str.ofString o.s)) && true) = true; rw [fine_ofs]; rfl
      | copy k => show (D.fine (.str "copy") && (D.fine (.int k) && true)) = true; rw [fine_ofs]; rfl
    | call n => show (D.fine (.str "call") && (PyData.strOk n && true)) = true; rw [fine_ofs]; simp [show PyData.strOk n = true from hr]
    | iff a b => show (D.fine (.str "if") && (PyData.strOk a && (PyData.strOk b && true))) = true; rw [fine_ofs]; simp [show PyData.strOk a = true from hr.1, show PyData.strOk b = true from hr.2]
theorem depR : ∀ (rs : List Rw), depL (encR rs) ≤ 1
  | [] => by show 0 ≤ 1; omega
  | r :: rs => by
    show max r.enc.dep (depL (encR rs)) ≤ 1
    have h1 := depR rs
    have h2 : r.enc.dep ≤ 1 := by
      cases r with
      | plain r => cases r <;> (show (depL _ + 1) ≤ 1; exact Nat.le_refl 1)
      | call n => show (depL _ + 1) ≤ 1; exact Nat.le_refl 1
      | iff a b => show (depL _ + 1) ≤ 1; exact Nat.le_refl 1
    omega
theorem encB_fine {b : Blk} (h : ∀ r ∈ b.rows, r.ok) : b.enc.fine = true ∧ b.enc.dep ≤ 50 := by
  constructor
  · show (fineL (encK b.ins) && (fineL (encK b.outs) && (fineL (encR b.rows) && true))) = true
    rw [fineK, fineK, fineR h]; rfl
  · show max (depL (encK b.ins) + 1) (max (depL (encK b.outs) + 1) (max (depL (encR b.rows) + 1) 0)) + 1 ≤ 50
    have := depR b.rows
    rw [depK, depK]; omega
theorem encP_eq0 {P : Prg} (hnd : (P.map (·.1)).Nodup) (h : ∀ p ∈ P, ∀ r ∈ p.2.rows, r.ok) : eqD (.dct (encP P)) (.dct (encP P)) = some true :=
  eqD_dct (by rw [List.map_map]; exact hnd) fun p hp => by
    obtain ⟨q, hq, rfl⟩ := List.mem_map.mp hp
    exact encB_fine (h q hq)
noncomputable abbrev copyB : MS := (setDM (varM 1) (varM 2) (tupM (consA (binM ixW (binM ixW (varM 0) (varM 2)) (conM (.int 0))) (consA (binM ixW (binM ixW (varM 0) (varM 2)) (conM (.int 1))) (consA (appM (app1 (listW false)) (consA (binM ixW (binM ixW (varM 0) (varM 2)) (conM (.int 2))) nilA)) nilA)))))
theorem copy_ok0 (w : W) (st : Store) (P : Prg) (hw : asD st w = some (.dct (encP P))) (hnd : (P.map (·.1)).Nodup) (hbr : ∀ p ∈ P, p.2.rows.length ≤ 3000) (hl : P.length ≤ 1000) : s_copy [w] st = .ok (.c st.length) (st ++ [.dct (encP P)]) := by
  have hx : w.isExc = false := noExc_of hw
  have hz : (encS (P.map (·.1))).length ≤ sizeLine := small (by rw [List.length_map, List.length_map]; omega)
  obtain ⟨env', st', e, P1, P2, x, q1, q2, q3, q4⟩ := loop_inv (t := .name 2) (body := copyB)
    (fun ys en s => ∃ (P1 P2 : Prg) (x : Option W), P = P1 ++ P2 ∧ ys = encS (P2.map (·.1)) ∧ en = [some w, some (.c st.length), x] ∧ s = st ++ [.dct (encP P1)]) (encS (P.map (·.1))) [some w, some (.c st.length), none] (st ++ [.dct []])
    (fun y ys en s ⟨P1, P2, x, q1, q2, q3, q4⟩ => by
      cases P2 with
      | nil => cases q2
      | cons p P2 =>
        obtain ⟨rfl, rfl⟩ := List.cons.inj q2
        subst q3 q4
        have hm : p ∈ P := by rw [q1]; simp
        have hlk : look p.1 (encP P) = some (.tup [.tup (encK p.2.ins), .tup (encK p.2.outs), .lst (encR p.2.rows)]) := by
          rw [lookP, lookA_of hnd (show (p.1, p.2) ∈ P from hm)]; rfl
        have hnew : ∀ q ∈ P1, q.1 ≠ p.1 := fun q hq e => by
          have nd := hnd
          rw [q1, List.map_append, List.nodup_append] at nd
          exact nd.2.2 q.1 (List.mem_map.mpr ⟨q, hq, rfl⟩) p.1 (by simp) e
        have hput := putP P1 p.1 p.2
        rw [putA_new hnew] at hput
        have hput' : putD (encP P1) p.1 (.tup [.tup (encK p.2.ins), .tup (encK p.2.outs), .lst (encR p.2.rows)]) = encP (P1 ++ [(p.1, p.2)]) := hput
        have hsz : (encP P1).length < sizeLine := lt_line (by rw [List.length_map]; have := congrArg List.length q1; rw [List.length_append] at this; omega)
        have hzr : (encR p.2.rows).length ≤ sizeLine := small (by rw [List.length_map]; have := hbr p hm; omega)
        have hw2 := asD_app hw [Cell.dct (encP P1)]
        refine ⟨_, [some w, some (.c st.length), some (.d (.str p.1))], st ++ [.dct (encP (P1 ++ [(p.1, p.2)]))], rfl, ?_, P1 ++ [p], P2, _, by rw [q1]; simp, rfl, rfl, rfl⟩
        simp only [szs, fnM, rawM, seqM, ifM, tvM, truM, binM, unM, appM, consA, nilA, varM, conM, retM, retN, asgM, expM, raiseM, passS, callF, app1, app2, noExc, isExc_d, isExc_c, bindS_ok, bindS_err, bindS_stuck, Res.bind_ok, Res.bind_err, Res.bind_stuck, onBl_bl, andT, orT, notT, andV, orV, notV, tupM, lstM, toDs, toD, asD_d, asD_new, frzW_d, newT, newL, slM, slW, someO, noneO, ixW, addW, subW, mulW, modW, cmpW, negW, lenW, intW, tabW, isNonB, isNonW, isNon_d, List.map_cons, List.map_nil, List.length_cons, List.length_nil, List.replicate, List.append_nil, List.nil_append, List.cons_append, List.getElem?_cons_zero, List.getElem?_cons_succ, List.set_cons_zero, List.set_cons_succ, Nat.reduceAdd, Nat.reduceSub, if_true, if_false, ite_true, ite_false, Bool.not_true, Bool.not_false, Bool.and_true, Bool.and_false, Bool.false_eq_true, reduceIte, fin_same, finE_same, fin_new, atI_0, atI_1, atI_2, eqW_ofs, look_ofs, look_nil, dspC, newDc, inW, Option.isSome_some, Option.isSome_none, itM, forM, items_dl, items_dt, methL, methD, arg0, arg1, arg2, appendW, popW, listW, get_new, set_new, isLst_new, pow109, String.reduceBEq, String.reduceEq, Bool.false_or, Bool.true_or, Bool.or_false, Bool.or_true, setDM, hw2, hlk, hzr, hsz, hput'])
    ⟨[], P, _, rfl, rfl, rfl, rfl⟩
  have hP2 : P2 = [] := by
    cases P2 with
    | nil => rfl
    | cons _ _ => cases q2
  subst hP2 q3 q4
  rw [List.append_nil] at q1
  subst q1
  unfold s_copy b_copy
  refine (fnM_ret (w := .c st.length) (st' := st ++ [.dct (encP P)]) rfl ?_).trans (fin_new_dct _ _)
  refine (seq_nx (e := [some w, some (.c st.length), none]) (s := st ++ [.dct []]) (asg_ok rfl)).trans ?_
  refine (seq_nx (e := [some w, some (.c st.length), x]) (s := st ++ [.dct (encP P)]) ?_).trans (by simp only [szs, fnM, rawM, seqM, ifM, tvM, truM, binM, unM, appM, consA, nilA, varM, conM, retM, retN, asgM, expM, raiseM, passS, callF, app1, app2, noExc, isExc_d, isExc_c, bindS_ok, bindS_err, bindS_stuck, Res.bind_ok, Res.bind_err, Res.bind_stuck, onBl_bl, andT, orT, notT, andV, orV, notV, tupM, lstM, toDs, toD, asD_d, asD_new, frzW_d, newT, newL, slM, slW, someO, noneO, ixW, addW, subW, mulW, modW, cmpW, negW, lenW, intW, tabW, isNonB, isNonW, isNon_d, List.map_cons, List.map_nil, List.length_cons, List.length_nil, List.replicate, List.append_nil, List.nil_append, List.cons_append, List.getElem?_cons_zero, List.getElem?_cons_succ, List.set_cons_zero, List.set_cons_succ, Nat.reduceAdd, Nat.reduceSub, if_true, if_false, ite_true, ite_false, Bool.not_true, Bool.not_false, Bool.and_true, Bool.and_false, Bool.false_eq_true, reduceIte, fin_same, finE_same, fin_new, atI_0, atI_1, atI_2, eqW_ofs, look_ofs, look_nil, dspC, newDc, inW, Option.isSome_some, Option.isSome_none, itM, forM, items_dl, items_dt, methL, methD, arg0, arg1, arg2, appendW, popW, listW, get_new, set_new, isLst_new, pow109, String.reduceBEq, String.reduceEq, Bool.false_or, Bool.true_or, Bool.or_false, Bool.or_true])
  have hw2 := asD_app hw [Cell.dct []]
  unfold forM
  have e1 : itM (appM (app1 (listW false)) (consA (varM 0) nilA)) [some w, some (.c st.length), none] (st ++ [.dct []]) = .ok (encS (P.map (·.1))) (st ++ [.dct []]) := by
    simp only [szs, fnM, rawM, seqM, ifM, tvM, truM, binM, unM, appM, consA, nilA, varM, conM, retM, retN, asgM, expM, raiseM, passS, callF, app1, app2, noExc, isExc_d, isExc_c, bindS_ok, bindS_err, bindS_stuck, Res.bind_ok, Res.bind_err, Res.bind_stuck, onBl_bl, andT, orT, notT, andV, orV, notV, tupM, lstM, toDs, toD, asD_d, asD_new, frzW_d, newT, newL, slM, slW, someO, noneO, ixW, addW, subW, mulW, modW, cmpW, negW, lenW, intW, tabW, isNonB, isNonW, isNon_d, List.map_cons, List.map_nil, List.length_cons, List.length_nil, List.replicate, List.append_nil, List.nil_append, List.cons_append, List.getElem?_cons_zero, List.getElem?_cons_succ, List.set_cons_zero, List.set_cons_succ, Nat.reduceAdd, Nat.reduceSub, if_true, if_false, ite_true, ite_false, Bool.not_true, Bool.not_false, Bool.and_true, Bool.and_false, Bool.false_eq_true, reduceIte, fin_same, finE_same, fin_new, atI_0, atI_1, atI_2, eqW_ofs, look_ofs, look_nil, dspC, newDc, inW, Option.isSome_some, Option.isSome_none, itM, forM, items_dl, items_dt, methL, methD, arg0, arg1, arg2, appendW, popW, listW, get_new, set_new, isLst_new, pow109, String.reduceBEq, String.reduceEq, Bool.false_or, Bool.true_or, Bool.or_false, Bool.or_true, hw2, names_P, hz]
  rw [e1]
  exact e
theorem raw_row_ok (ns : List Int) (k : Nat) (t : Int) (st : Store) (hk : k < st.length) (h0 : 0 ≤ t) (h1 : t ≤ 800000) (N : List Str) (hN : ∀ n ∈ N, NmOk n) (hN1 : 1 ≤ N.length) (hN2 : N.length ≤ 1000) :
    ∃ (r : Rw) (t' : Int), r.ok ∧ t ≤ t' ∧ t' ≤ t + 10 ∧ s_raw_row [.d (.scr ns), .c k, .d (.lst (encS N))] (st.set k (tc t)) = .ok (.d r.enc) (st.set k (tc t')) := by
  obtain ⟨w, w0, w1, ew⟩ := draw2 ns k t 4 st hk h0 (by omega) (by decide)
  have fin2 : ∀ (x : D) (t' : Int), b_raw_row [some (.d (.scr ns)), some (.c k), some (.d (.lst (encS N))), none, none, none, none] (st.set k (tc t)) = .ret (.d x) (st.set k (tc t')) →
      s_raw_row [.d (.scr ns), .c k, .d (.lst (encS N))] (st.set k (tc t)) = .ok (.d x) (st.set k (tc t')) := fun R t' h => (fnM_ret rfl h).trans (fin_set2 _ _ _ _ _)
  by_cases hw : w < 2
  · obtain ⟨r, t', hr, r1, r2, er⟩ := plain_row_ok ns k (t + 1) st hk (by omega) (by omega)
    refine ⟨.plain r, t', hr, by omega, by omega, fin2 _ _ ?_⟩
    unfold b_raw_row
    simp only [szs, fnM, rawM, seqM, ifM, tvM, truM, binM, unM, appM, consA, nilA, varM, conM, retM, retN, asgM, expM, raiseM, passS, callF, app1, app2, noExc, isExc_d, isExc_c, bindS_ok, bindS_err, bindS_stuck, Res.bind_ok, Res.bind_err, Res.bind_stuck, onBl_bl, andT, orT, notT, andV, orV, notV, tupM, lstM, toDs, toD, asD_d, asD_new, frzW_d, newT, newL, slM, slW, someO, noneO, ixW, addW, subW, mulW, modW, cmpW, negW, lenW, intW, tabW, isNonB, isNonW, isNon_d, List.map_cons, List.map_nil, List.length_cons, List.length_nil, List.replicate, List.append_nil, List.nil_append, List.cons_append, List.getElem?_cons_zero, List.getElem?_cons_succ, List.set_cons_zero, List.set_cons_succ, Nat.reduceAdd, Nat.reduceSub, if_true, if_false, ite_true, ite_false, Bool.not_true, Bool.not_false, Bool.and_true, Bool.and_false, Bool.false_eq_true, reduceIte, fin_same, finE_same, fin_new, atI_0, atI_1, atI_2, eqW_ofs, look_ofs, look_nil, dspC, newDc, inW, Option.isSome_some, Option.isSome_none, itM, forM, items_dl, items_dt, methL, methD, arg0, arg1, arg2, appendW, popW, listW, get_new, set_new, isLst_new, pow109, String.reduceBEq, String.reduceEq, Bool.false_or, Bool.true_or, Bool.or_false, Bool.or_true, ew, ltW, hw, decide_true, er, Rw.enc]
  · have hw' : decide (w < 2) = false := decide_eq_false hw
    have hlN : ((encS N).length : Int) = (N.length : Int) := by rw [List.length_map]
    obtain ⟨a, a0, a1, ea⟩ := draw2 ns k (t + 1) N.length st hk (by omega) (by omega) (by omega)
    obtain ⟨one, ho, eo⟩ := atI_in D.str N a a0 a1
    have hone := hN one ho
    have hol := hone.lo
    have hoh := hone.hi
    have hos : one.length ≤ sizeLine := small (by omega)
    obtain ⟨b, b0, b1, eb⟩ := draw2 ns k (t + 1 + 1) one.length st hk (by omega) (by omega) (by omega)
    obtain ⟨odd, hodd, hodl, eodd⟩ := odd_ok one b hone
    let L : List Str := N ++ [odd]
    have hL : ∀ n ∈ L, PyData.strOk n = true := fun n hn => by
      rcases List.mem_append.mp hn with h | h
      · exact (hN n h).ok
      · rw [List.mem_singleton] at h; subst h; exact hodd
    have hLl : L.length = N.length + 1 := by rw [List.length_append, List.length_singleton]
    have happ : encS N ++ [.str odd] = encS L := by simp [L]
    have hzL : (encS L).length ≤ sizeLine := small (by rw [List.length_map]; omega)
    have hlL : ((encS L).length : Int) = (L.length : Int) := by rw [List.length_map]
    obtain ⟨c, c0, c1, ec⟩ := draw2 ns k (t + 1 + 1 + 1) L.length st hk (by omega) (by omega) (by omega)
    obtain ⟨n1, hn1, en1⟩ := atI_in D.str L c c0 c1
    obtain ⟨d, d0, d1, ed⟩ := draw2 ns k (t + 1 + 1 + 1 + 1) L.length st hk (by omega) (by omega) (by omega)
    obtain ⟨n2, hn2, en2⟩ := atI_in D.str L d d0 d1
    have pre : ∀ rest : MS, seqM (asgM 3 (callF s_draw (consA (varM 0) (consA (varM 1) (consA (conM (.int 4)) nilA)))))
        (seqM (ifM (tvM (binM ltW (varM 3) (conM (.int 2))))
        (retM (callF s_plain_row (consA (varM 0) (consA (varM 1) nilA))))
        passS)
        (seqM (asgM 4 (binM ixW (varM 2) (callF s_draw (consA (varM 0) (consA (varM 1) (consA (appM (app1 lenW) (consA (varM 2) nilA)) nilA))))))
        (seqM (asgM 5 (callF s_draw (consA (varM 0) (consA (varM 1) (consA (appM (app1 lenW) (consA (varM 4) nilA)) nilA)))))
        (seqM (asgM 6 (binM (addW false) (varM 2) (lstM false (consA (binM (addW false) (binM (addW false) (slM false (varM 4) noneO (someO (varM 5))) (conM (.str "?"))) (slM false (varM 4) (someO (binM (addW false) (varM 5) (conM (.int 1)))) noneO)) nilA))))
        (seqM (asgM 4 (binM ixW (varM 6) (callF s_draw (consA (varM 0) (consA (varM 1) (consA (appM (app1 lenW) (consA (varM 6) nilA)) nilA)))))) rest))))) [some (.d (.scr ns)), some (.c k), some (.d (.lst (encS N))), none, none, none, none] (st.set k (tc t))
        = rest [some (.d (.scr ns)), some (.c k), some (.d (.lst (encS N))), some (.d (.int w)), some (.d (.str n1)), some (.d (.int b)), some (.d (.lst (encS L)))] (st.set k (tc (t + 1 + 1 + 1 + 1))) := fun rest => by
      refine (seq_nx (e := [some (.d (.scr ns)), some (.c k), some (.d (.lst (encS N))), some (.d (.int w)), none, none, none]) (s := st.set k (tc (t + 1))) (by simp only [szs, fnM, rawM, seqM, ifM, tvM, truM, binM, unM, appM, consA, nilA, varM, conM, retM, retN, asgM, expM, raiseM, passS, callF, app1, app2, noExc, isExc_d, isExc_c, bindS_ok, bindS_err, bindS_stuck, Res.bind_ok, Res.bind_err, Res.bind_stuck, onBl_bl, andT, orT, notT, andV, orV, notV, tupM, lstM, toDs, toD, asD_d, asD_new, frzW_d, newT, newL, slM, slW, someO, noneO, ixW, addW, subW, mulW, modW, cmpW, negW, lenW, intW, tabW, isNonB, isNonW, isNon_d, List.map_cons, List.map_nil, List.length_cons, List.length_nil, List.replicate, List.append_nil, List.nil_append, List.cons_append, List.getElem?_cons_zero, List.getElem?_cons_succ, List.set_cons_zero, List.set_cons_succ, Nat.reduceAdd, Nat.reduceSub, if_true, if_false, ite_true, ite_false, Bool.not_true, Bool.not_false, Bool.and_true, Bool.and_false, Bool.false_eq_true, reduceIte, fin_same, finE_same, fin_new, atI_0, atI_1, atI_2, eqW_ofs, look_ofs, look_nil, dspC, newDc, inW, Option.isSome_some, Option.isSome_none, itM, forM, items_dl, items_dt, methL, methD, arg0, arg1, arg2, appendW, popW, listW, get_new, set_new, isLst_new, pow109, String.reduceBEq, String.reduceEq, Bool.false_or, Bool.true_or, Bool.or_false, Bool.or_true, ew])).trans ?_
      refine (seq_nx (e := [some (.d (.scr ns)), some (.c k), some (.d (.lst (encS N))), some (.d (.int w)), none, none, none]) (s := st.set k (tc (t + 1))) (by simp only [szs, fnM, rawM, seqM, ifM, tvM, truM, binM, unM, appM, consA, nilA, varM, conM, retM, retN, asgM, expM, raiseM, passS, callF, app1, app2, noExc, isExc_d, isExc_c, bindS_ok, bindS_err, bindS_stuck, Res.bind_ok, Res.bind_err, Res.bind_stuck, onBl_bl, andT, orT, notT, andV, orV, notV, tupM, lstM, toDs, toD, asD_d, asD_new, frzW_d, newT, newL, slM, slW, someO, noneO, ixW, addW, subW, mulW, modW, cmpW, negW, lenW, intW, tabW, isNonB, isNonW, isNon_d, List.map_cons, List.map_nil, List.length_cons, List.length_nil, List.replicate, List.append_nil, List.nil_append, List.cons_append, List.getElem?_cons_zero, List.getElem?_cons_succ, List.set_cons_zero, List.set_cons_succ, Nat.reduceAdd, Nat.reduceSub, if_true, if_false, ite_true, ite_false, Bool.not_true, Bool.not_false, Bool.and_true, Bool.and_false, Bool.false_eq_true, reduceIte, fin_same, finE_same, fin_new, atI_0, atI_1, atI_2, eqW_ofs, look_ofs, look_nil, dspC, newDc, inW, Option.isSome_some, Option.isSome_none, itM, forM, items_dl, items_dt, methL, methD, arg0, arg1, arg2, appendW, popW, listW, get_new, set_new, isLst_new, pow109, String.reduceBEq, String.reduceEq, Bool.false_or, Bool.true_or, Bool.or_false, Bool.or_true, ltW, hw'])).trans ?_
      refine (seq_nx (e := [some (.d (.scr ns)), some (.c k), some (.d (.lst (encS N))), some (.d (.int w)), some (.d (.str one)), none, none]) (s := st.set k (tc (t + 1 + 1))) (by simp only [szs, fnM, rawM, seqM, ifM, tvM, truM, binM, unM, appM, consA, nilA, varM, conM, retM, retN, asgM, expM, raiseM, passS, callF, app1, app2, noExc, isExc_d, isExc_c, bindS_ok, bindS_err, bindS_stuck, Res.bind_ok, Res.bind_err, Res.bind_stuck, onBl_bl, andT, orT, notT, andV, orV, notV, tupM, lstM, toDs, toD, asD_d, asD_new, frzW_d, newT, newL, slM, slW, someO, noneO, ixW, addW, subW, mulW, modW, cmpW, negW, lenW, intW, tabW, isNonB, isNonW, isNon_d, List.map_cons, List.map_nil, List.length_cons, List.length_nil, List.replicate, List.append_nil, List.nil_append, List.cons_append, List.getElem?_cons_zero, List.getElem?_cons_succ, List.set_cons_zero, List.set_cons_succ, Nat.reduceAdd, Nat.reduceSub, if_true, if_false, ite_true, ite_false, Bool.not_true, Bool.not_false, Bool.and_true, Bool.and_false, Bool.false_eq_true, reduceIte, fin_same, finE_same, fin_new, atI_0, atI_1, atI_2, eqW_ofs, look_ofs, look_nil, dspC, newDc, inW, Option.isSome_some, Option.isSome_none, itM, forM, items_dl, items_dt, methL, methD, arg0, arg1, arg2, appendW, popW, listW, get_new, set_new, isLst_new, pow109, String.reduceBEq, String.reduceEq, Bool.false_or, Bool.true_or, Bool.or_false, Bool.or_true, hlN, ea, eo])).trans ?_
      refine (seq_nx (e := [some (.d (.scr ns)), some (.c k), some (.d (.lst (encS N))), some (.d (.int w)), some (.d (.str one)), some (.d (.int b)), none]) (s := st.set k (tc (t + 1 + 1 + 1))) (by simp only [szs, fnM, rawM, seqM, ifM, tvM, truM, binM, unM, appM, consA, nilA, varM, conM, retM, retN, asgM, expM, raiseM, passS, callF, app1, app2, noExc, isExc_d, isExc_c, bindS_ok, bindS_err, bindS_stuck, Res.bind_ok, Res.bind_err, Res.bind_stuck, onBl_bl, andT, orT, notT, andV, orV, notV, tupM, lstM, toDs, toD, asD_d, asD_new, frzW_d, newT, newL, slM, slW, someO, noneO, ixW, addW, subW, mulW, modW, cmpW, negW, lenW, intW, tabW, isNonB, isNonW, isNon_d, List.map_cons, List.map_nil, List.length_cons, List.length_nil, List.replicate, List.append_nil, List.nil_append, List.cons_append, List.getElem?_cons_zero, List.getElem?_cons_succ, List.set_cons_zero, List.set_cons_succ, Nat.reduceAdd, Nat.reduceSub, if_true, if_false, ite_true, ite_false, Bool.not_true, Bool.not_false, Bool.and_true, Bool.and_false, Bool.false_eq_true, reduceIte, fin_same, finE_same, fin_new, atI_0, atI_1, atI_2, eqW_ofs, look_ofs, look_nil, dspC, newDc, inW, Option.isSome_some, Option.isSome_none, itM, forM, items_dl, items_dt, methL, methD, arg0, arg1, arg2, appendW, popW, listW, get_new, set_new, isLst_new, pow109, String.reduceBEq, String.reduceEq, Bool.false_or, Bool.true_or, Bool.or_false, Bool.or_true, hos, eb])).trans ?_
      refine (seq_nx (e := [some (.d (.scr ns)), some (.c k), some (.d (.lst (encS N))), some (.d (.int w)), some (.d (.str one)), some (.d (.int b)), some (.d (.lst (encS L)))]) (s := st.set k (tc (t + 1 + 1 + 1))) (by
        have eod := eodd [some (.d (.scr ns)), some (.c k), some (.d (.lst (encS N))), some (.d (.int w)), some (.d (.str one)), some (.d (.int b)), none] (st.set k (tc (t + 1 + 1 + 1))) rfl rfl
        refine asg_ok (w := .d (.lst (encS L))) ?_
        rw [bin_ok (x := .d (.lst (encS N))) (s1 := st.set k (tc (t + 1 + 1 + 1))) (by simp only [szs, fnM, rawM, seqM, ifM, tvM, truM, binM, unM, appM, consA, nilA, varM, conM, retM, retN, asgM, expM, raiseM, passS, callF, app1, app2, noExc, isExc_d, isExc_c, bindS_ok, bindS_err, bindS_stuck, Res.bind_ok, Res.bind_err, Res.bind_stuck, onBl_bl, andT, orT, notT, andV, orV, notV, tupM, lstM, toDs, toD, asD_d, asD_new, frzW_d, newT, newL, slM, slW, someO, noneO, ixW, addW, subW, mulW, modW, cmpW, negW, lenW, intW, tabW, isNonB, isNonW, isNon_d, List.map_cons, List.map_nil, List.length_cons, List.length_nil, List.replicate, List.append_nil, List.nil_append, List.cons_append, List.getElem?_cons_zero, List.getElem?_cons_succ, List.set_cons_zero, List.set_cons_succ, Nat.reduceAdd, Nat.reduceSub, if_true, if_false, ite_true, ite_false, Bool.not_true, Bool.not_false, Bool.and_true, Bool.and_false, Bool.false_eq_true, reduceIte, fin_same, finE_same, fin_new, atI_0, atI_1, atI_2, eqW_ofs, look_ofs, look_nil, dspC, newDc, inW, Option.isSome_some, Option.isSome_none, itM, forM, items_dl, items_dt, methL, methD, arg0, arg1, arg2, appendW, popW, listW, get_new, set_new, isLst_new, pow109, String.reduceBEq, String.reduceEq, Bool.false_or, Bool.true_or, Bool.or_false, Bool.or_true]) (y := .d (.lst [.str odd])) (s2 := st.set k (tc (t + 1 + 1 + 1))) (by
          unfold lstM
          simp only [consA, nilA, eod, Res.bind_ok]
          simp only [szs, fnM, rawM, seqM, ifM, tvM, truM, binM, unM, appM, consA, nilA, varM, conM, retM, retN, asgM, expM, raiseM, passS, callF, app1, app2, noExc, isExc_d, isExc_c, bindS_ok, bindS_err, bindS_stuck, Res.bind_ok, Res.bind_err, Res.bind_stuck, onBl_bl, andT, orT, notT, andV, orV, notV, tupM, lstM, toDs, toD, asD_d, asD_new, frzW_d, newT, newL, slM, slW, someO, noneO, ixW, addW, subW, mulW, modW, cmpW, negW, lenW, intW, tabW, isNonB, isNonW, isNon_d, List.map_cons, List.map_nil, List.length_cons, List.length_nil, List.replicate, List.append_nil, List.nil_append, List.cons_append, List.getElem?_cons_zero, List.getElem?_cons_succ, List.set_cons_zero, List.set_cons_succ, Nat.reduceAdd, Nat.reduceSub, if_true, if_false, ite_true, ite_false, Bool.not_true, Bool.not_false, Bool.and_true, Bool.and_false, Bool.false_eq_true, reduceIte, fin_same, finE_same, fin_new, atI_0, atI_1, atI_2, eqW_ofs, look_ofs, look_nil, dspC, newDc, inW, Option.isSome_some, Option.isSome_none, itM, forM, items_dl, items_dt, methL, methD, arg0, arg1, arg2, appendW, popW, listW, get_new, set_new, isLst_new, pow109, String.reduceBEq, String.reduceEq, Bool.false_or, Bool.true_or, Bool.or_false, Bool.or_true])]
        simp only [szs, fnM, rawM, seqM, ifM, tvM, truM, binM, unM, appM, consA, nilA, varM, conM, retM, retN, asgM, expM, raiseM, passS, callF, app1, app2, noExc, isExc_d, isExc_c, bindS_ok, bindS_err, bindS_stuck, Res.bind_ok, Res.bind_err, Res.bind_stuck, onBl_bl, andT, orT, notT, andV, orV, notV, tupM, lstM, toDs, toD, asD_d, asD_new, frzW_d, newT, newL, slM, slW, someO, noneO, ixW, addW, subW, mulW, modW, cmpW, negW, lenW, intW, tabW, isNonB, isNonW, isNon_d, List.map_cons, List.map_nil, List.length_cons, List.length_nil, List.replicate, List.append_nil, List.nil_append, List.cons_append, List.getElem?_cons_zero, List.getElem?_cons_succ, List.set_cons_zero, List.set_cons_succ, Nat.reduceAdd, Nat.reduceSub, if_true, if_false, ite_true, ite_false, Bool.not_true, Bool.not_false, Bool.and_true, Bool.and_false, Bool.false_eq_true, reduceIte, fin_same, finE_same, fin_new, atI_0, atI_1, atI_2, eqW_ofs, look_ofs, look_nil, dspC, newDc, inW, Option.isSome_some, Option.isSome_none, itM, forM, items_dl, items_dt, methL, methD, arg0, arg1, arg2, appendW, popW, listW, get_new, set_new, isLst_new, pow109, String.reduceBEq, String.reduceEq, Bool.false_or, Bool.true_or, Bool.or_false, Bool.or_true, happ, hzL])).trans ?_
      exact seq_nx (by simp only [szs, fnM, rawM, seqM, ifM, tvM, truM, binM, unM, appM, consA, nilA, varM, conM, retM, retN, asgM, expM, raiseM, passS, callF, app1, app2, noExc, isExc_d, isExc_c, bindS_ok, bindS_err, bindS_stuck, Res.bind_ok, Res.bind_err, Res.bind_stuck, onBl_bl, andT, orT, notT, andV, orV, notV, tupM, lstM, toDs, toD, asD_d, asD_new, frzW_d, newT, newL, slM, slW, someO, noneO, ixW, addW, subW, mulW, modW, cmpW, negW, lenW, intW, tabW, isNonB, isNonW, isNon_d, List.map_cons, List.map_nil, List.length_cons, List.length_nil, List.replicate, List.append_nil, List.nil_append, List.cons_append, List.getElem?_cons_zero, List.getElem?_cons_succ, List.set_cons_zero, List.set_cons_succ, Nat.reduceAdd, Nat.reduceSub, if_true, if_false, ite_true, ite_false, Bool.not_true, Bool.not_false, Bool.and_true, Bool.and_false, Bool.false_eq_true, reduceIte, fin_same, finE_same, fin_new, atI_0, atI_1, atI_2, eqW_ofs, look_ofs, look_nil, dspC, newDc, inW, Option.isSome_some, Option.isSome_none, itM, forM, items_dl, items_dt, methL, methD, arg0, arg1, arg2, appendW, popW, listW, get_new, set_new, isLst_new, pow109, String.reduceBEq, String.reduceEq, Bool.false_or, Bool.true_or, Bool.or_false, Bool.or_true, hlL, ec, en1])
    by_cases h2 : w = 2
    · refine ⟨.call n1, t + 1 + 1 + 1 + 1, hL n1 hn1, by omega, by omega, fin2 _ _ ?_⟩
      refine (pre _).trans ?_
      have h2' : (w == 2) = true := by simpa using h2
      simp only [szs, fnM, rawM, seqM, ifM, tvM, truM, binM, unM, appM, consA, nilA, varM, conM, retM, retN, asgM, expM, raiseM, passS, callF, app1, app2, noExc, isExc_d, isExc_c, bindS_ok, bindS_err, bindS_stuck, Res.bind_ok, Res.bind_err, Res.bind_stuck, onBl_bl, andT, orT, notT, andV, orV, notV, tupM, lstM, toDs, toD, asD_d, asD_new, frzW_d, newT, newL, slM, slW, someO, noneO, ixW, addW, subW, mulW, modW, cmpW, negW, lenW, intW, tabW, isNonB, isNonW, isNon_d, List.map_cons, List.map_nil, List.length_cons, List.length_nil, List.replicate, List.append_nil, List.nil_append, List.cons_append, List.getElem?_cons_zero, List.getElem?_cons_succ, List.set_cons_zero, List.set_cons_succ, Nat.reduceAdd, Nat.reduceSub, if_true, if_false, ite_true, ite_false, Bool.not_true, Bool.not_false, Bool.and_true, Bool.and_false, Bool.false_eq_true, reduceIte, fin_same, finE_same, fin_new, atI_0, atI_1, atI_2, eqW_ofs, look_ofs, look_nil, dspC, newDc, inW, Option.isSome_some, Option.isSome_none, itM, forM, items_dl, items_dt, methL, methD, arg0, arg1, arg2, appendW, popW, listW, get_new, set_new, isLst_new, pow109, String.reduceBEq, String.reduceEq, Bool.false_or, Bool.true_or, Bool.or_false, Bool.or_true, eqW_int, h2', Rw.enc]
    · refine ⟨.iff n1 n2, t + 1 + 1 + 1 + 1 + 1, ⟨hL n1 hn1, hL n2 hn2⟩, by omega, by omega, fin2 _ _ ?_⟩
      refine (pre _).trans ?_
      have h2' : (w == 2) = false := by simpa using h2
      simp only [szs, fnM, rawM, seqM, ifM, tvM, truM, binM, unM, appM, consA, nilA, varM, conM, retM, retN, asgM, expM, raiseM, passS, callF, app1, app2, noExc, isExc_d, isExc_c, bindS_ok, bindS_err, bindS_stuck, Res.bind_ok, Res.bind_err, Res.bind_stuck, onBl_bl, andT, orT, notT, andV, orV, notV, tupM, lstM, toDs, toD, asD_d, asD_new, frzW_d, newT, newL, slM, slW, someO, noneO, ixW, addW, subW, mulW, modW, cmpW, negW, lenW, intW, tabW, isNonB, isNonW, isNon_d, List.map_cons, List.map_nil, List.length_cons, List.length_nil, List.replicate, List.append_nil, List.nil_append, List.cons_append, List.getElem?_cons_zero, List.getElem?_cons_succ, List.set_cons_zero, List.set_cons_succ, Nat.reduceAdd, Nat.reduceSub, if_true, if_false, ite_true, ite_false, Bool.not_true, Bool.not_false, Bool.and_true, Bool.and_false, Bool.false_eq_true, reduceIte, fin_same, finE_same, fin_new, atI_0, atI_1, atI_2, eqW_ofs, look_ofs, look_nil, dspC, newDc, inW, Option.isSome_some, Option.isSome_none, itM, forM, items_dl, items_dt, methL, methD, arg0, arg1, arg2, appendW, popW, listW, get_new, set_new, isLst_new, pow109, String.reduceBEq, String.reduceEq, Bool.false_or, Bool.true_or, Bool.or_false, Bool.or_true, eqW_int, h2', hlL, ed, en2, Rw.enc]
end Py

namespace Py
open PySem L2
/-- the store of a law: the tape, the program -/
abbrev KS (kvs : List (Str × D)) (t : Int) (e : Store) : Store := tc t :: .dct kvs :: e
theorem drawK (ns : List Int) (kvs : List (Str × D)) (e : Store) (t m : Int) (h0 : 0 ≤ t) (h1 : t ≤ 1000000) (hm : 0 < m) : ∃ v, 0 ≤ v ∧ v < m ∧ s_draw [.d (.scr ns), .c 0, .d (.int m)] (KS kvs t e) = .ok (.d (.int v)) (KS kvs (t + 1) e) :=
  draw2 ns 0 t m (KS kvs t e) (by simp) h0 h1 hm
theorem kinds_2K (ns : List Int) (kvs : List (Str × D)) (e : Store) (t : Int) (h0 : 0 ≤ t) (h1 : t ≤ 800000) :
    ∃ (ks : List Kd) (t' : Int), ks.length ≤ 60 ∧ t ≤ t' ∧ t' ≤ t + 102 ∧ s_kinds_2 [.d (.scr ns), .c 0] (KS kvs t e) = .ok (.d (.tup (encK ks))) (KS kvs t' e) :=
  kinds_2_ok ns 0 t (KS kvs t e) (by simp) h0 h1
theorem raw_rowK (ns : List Int) (kvs : List (Str × D)) (e : Store) (t : Int) (h0 : 0 ≤ t) (h1 : t ≤ 800000) (N : List Str) (hN : ∀ n ∈ N, NmOk n) (hN1 : 1 ≤ N.length) (hN2 : N.length ≤ 1000) :
    ∃ (r : Rw) (t' : Int), r.ok ∧ t ≤ t' ∧ t' ≤ t + 10 ∧ s_raw_row [.d (.scr ns), .c 0, .d (.lst (encS N))] (KS kvs t e) = .ok (.d r.enc) (KS kvs t' e) :=
  raw_row_ok ns 0 t (KS kvs t e) (by simp) h0 h1 N hN hN1 hN2
/-- a call's end that keeps all cells as many -/
theorem fin_K (kvs kvs' : List (Str × D)) (t t' : Int) (x : D) : fin (KS kvs t []) (.d x) (KS kvs' t' []) = .ok (.d x) (KS kvs' t' []) := by
  unfold fin
  rw [if_pos]
  · rfl
  · refine ⟨Nat.le_refl _, fun i fs hi h => ?_⟩
    match i, hi with
    | 0, _ => cases h
    | 1, _ => cases h
/-- what a changed program still keeps -/
structure SomeP (P : Prg) : Prop where
  ok : PrgOk P
  lo : 1 ≤ P.length
  hi : P.length ≤ 12
theorem GoodP.toSome {P : Prg} (h : GoodP P) : SomeP P := ⟨h.ok, h.lo, h.hi⟩
theorem putA_len_mem {α : Type} {kvs : List (Str × α)} {k : Str} {v u : α} (h : (k, u) ∈ kvs) : (putA kvs k v).length = kvs.length := by
  unfold putA
  rw [if_pos (List.any_eq_true.mpr ⟨_, h, by simp⟩), List.length_map]
theorem spoilt_ok (ns : List Int) (t : Int) (h0 : 0 ≤ t) (h1 : t ≤ 700000) (P : Prg) (hP : SomeP P) (hr : ∀ p ∈ P, p.2.rows.length ≤ 2000) :
    ∃ (P' : Prg) (t' : Int) (n : Str), SomeP P' ∧ t ≤ t' ∧ t' ≤ t + 150 ∧ (∀ p ∈ P', p.2.rows.length ≤ 2001) ∧ n ∈ P'.map (·.1) ∧ s_spoilt [.d (.scr ns), .c 0, .c 1] (KS (encP P) t []) = .ok (.d (.str n)) (KS (encP P') t' []) := by
  have hlo := hP.lo
  have hhi := hP.hi
  let N : List Str := P.map (·.1)
  have hNl : N.length = P.length := List.length_map _
  have hNn : ∀ n ∈ N, NmOk n := fun n hn => by obtain ⟨p, hp, rfl⟩ := List.mem_map.mp hn; exact hP.ok.nm p hp
  have hlN : ((encS N).length : Int) = (P.length : Int) := by rw [List.length_map, hNl]
  have hzN : (encS N).length ≤ sizeLine := small (by rw [List.length_map]; omega)
  have hN : ((encP P).map fun p => D.str p.1) = encS N := names_P P
  obtain ⟨a, a0, a1, ea⟩ := drawK ns (encP P) [] t P.length h0 (by omega) (by omega)
  obtain ⟨n, hn, en⟩ := atI_in D.str N a a0 (by omega)
  obtain ⟨p, hp, rfl⟩ := List.mem_map.mp hn
  have hb := hP.ok.bl p hp
  have hbr := hr p hp
  have hlk : look p.1 (encP P) = some (.tup [.tup (encK p.2.ins), .tup (encK p.2.outs), .lst (encR p.2.rows)]) := by
    rw [lookP, lookA_of hP.ok.nd (show (p.1, p.2) ∈ P from hp)]; rfl
  have hlR : ((encR p.2.rows).length : Int) = (p.2.rows.length : Int) := by rw [List.length_map]
  obtain ⟨b, b0, b1, eb⟩ := drawK ns (encP P) [] (t + 1) ((p.2.rows.length : Int) + 1) (by omega) (by omega) (by omega)
  obtain ⟨w, w0, w1, ew⟩ := drawK ns (encP P) [] (t + 1 + 1) 6 (by omega) (by omega) (by decide)
  have asd : ∀ t, asD (KS (encP P) t []) (.c 1) = some (.dct (encP P)) := fun _ => rfl
  have hct : cut (encR p.2.rows) none (some b) = encR (p.2.rows.take b.toNat) := by
    have := cut_to (encR p.2.rows) b.toNat
    rw [Int.toNat_of_nonneg b0] at this
    rw [this]; simp
  have hcf : cut (encR p.2.rows) (some b) none = encR (p.2.rows.drop b.toNat) := by
    have := cut_from (encR p.2.rows) b.toNat
    rw [Int.toNat_of_nonneg b0] at this
    rw [this]; simp
  have hcf1 : cut (encR p.2.rows) (some (b + 1)) none = encR (p.2.rows.drop (b.toNat + 1)) := by
    have := cut_from (encR p.2.rows) (b.toNat + 1)
    rw [show ((b.toNat + 1 : Nat) : Int) = b + 1 by omega] at this
    rw [this]; simp
  have hzt : (encR (p.2.rows.take b.toNat)).length ≤ sizeLine := small (by rw [List.length_map, List.length_take]; omega)
  have hzf : (encR (p.2.rows.drop b.toNat)).length ≤ sizeLine := small (by rw [List.length_map, List.length_drop]; omega)
  have hzf1 : (encR (p.2.rows.drop (b.toNat + 1))).length ≤ sizeLine := small (by rw [List.length_map, List.length_drop]; omega)
  let E (i o : D) (r : D) : Env := [some (.d (.scr ns)), some (.c 0), some (.c 1), some (.d (.lst (encS N))), some (.d (.str p.1)), some (.d i), some (.d o), some (.d r), some (.d (.int b)), some (.d (.int w))]
  have pre : ∀ rest : MS, seqM (asgM 3 (appM (app1 (listW false)) (consA (varM 2) nilA)))
      (seqM (asgM 4 (binM ixW (varM 3) (callF s_draw (consA (varM 0) (consA (varM 1) (consA (appM (app1 lenW) (consA (varM 3) nilA)) nilA))))))
      (seqM (asgTM [5, 6, 7] (binM ixW (varM 2) (varM 4)))
      (seqM (asgM 8 (callF s_draw (consA (varM 0) (consA (varM 1) (consA (binM (addW false) (appM (app1 lenW) (consA (varM 7) nilA)) (conM (.int 1))) nilA)))))
      (seqM (asgM 9 (callF s_draw (consA (varM 0) (consA (varM 1) (consA (conM (.int 6)) nilA))))) rest)))) [some (.d (.scr ns)), some (.c 0), some (.c 1), none, none, none, none, none, none, none] (KS (encP P) t [])
      = rest (E (.tup (encK p.2.ins)) (.tup (encK p.2.outs)) (.lst (encR p.2.rows))) (KS (encP P) (t + 1 + 1 + 1) []) := fun rest => by
    refine (seq_nx (e := [some (.d (.scr ns)), some (.c 0), some (.c 1), some (.d (.lst (encS N))), none, none, none, none, none, none]) (s := KS (encP P) t []) (by simp only [szs, fnM, rawM, seqM, ifM, tvM, truM, binM, unM, appM, consA, nilA, varM, conM, retM, retN, asgM, expM, raiseM, passS, callF, app1, app2, noExc, isExc_d, isExc_c, bindS_ok, bindS_err, bindS_stuck, Res.bind_ok, Res.bind_err, Res.bind_stuck, onBl_bl, andT, orT, notT, andV, orV, notV, tupM, lstM, toDs, toD, asD_d, asD_new, frzW_d, newT, newL, slM, slW, someO, noneO, ixW, addW, subW, mulW, modW, cmpW, negW, lenW, intW, tabW, isNonB, isNonW, isNon_d, List.map_cons, List.map_nil, List.length_cons, List.length_nil, List.replicate, List.append_nil, List.nil_append, List.cons_append, List.getElem?_cons_zero, List.getElem?_cons_succ, List.set_cons_zero, List.set_cons_succ, Nat.reduceAdd, Nat.reduceSub, if_true, if_false, ite_true, ite_false, Bool.not_true, Bool.not_false, Bool.and_true, Bool.and_false, Bool.false_eq_true, reduceIte, fin_same, finE_same, fin_new, atI_0, atI_1, atI_2, eqW_ofs, look_ofs, look_nil, dspC, newDc, inW, Option.isSome_some, Option.isSome_none, itM, forM, items_dl, items_dt, methL, methD, arg0, arg1, arg2, appendW, popW, listW, get_new, set_new, isLst_new, pow109, String.reduceBEq, String.reduceEq, Bool.false_or, Bool.true_or, Bool.or_false, Bool.or_true, asd, hN, hzN])).trans ?_
    refine (seq_nx (e := [some (.d (.scr ns)), some (.c 0), some (.c 1), some (.d (.lst (encS N))), some (.d (.str p.1)), none, none, none, none, none]) (s := KS (encP P) (t + 1) []) (by simp only [szs, fnM, rawM, seqM, ifM, tvM, truM, binM, unM, appM, consA, nilA, varM, conM, retM, retN, asgM, expM, raiseM, passS, callF, app1, app2, noExc, isExc_d, isExc_c, bindS_ok, bindS_err, bindS_stuck, Res.bind_ok, Res.bind_err, Res.bind_stuck, onBl_bl, andT, orT, notT, andV, orV, notV, tupM, lstM, toDs, toD, asD_d, asD_new, frzW_d, newT, newL, slM, slW, someO, noneO, ixW, addW, subW, mulW, modW, cmpW, negW, lenW, intW, tabW, isNonB, isNonW, isNon_d, List.map_cons, List.map_nil, List.length_cons, List.length_nil, List.replicate, List.append_nil, List.nil_append, List.cons_append, List.getElem?_cons_zero, List.getElem?_cons_succ, List.set_cons_zero, List.set_cons_succ, Nat.reduceAdd, Nat.reduceSub, if_true, if_false, ite_true, ite_false, Bool.not_true, Bool.not_false, Bool.and_true, Bool.and_false, Bool.false_eq_true, reduceIte, fin_same, finE_same, fin_new, atI_0, atI_1, atI_2, eqW_ofs, look_ofs, look_nil, dspC, newDc, inW, Option.isSome_some, Option.isSome_none, itM, forM, items_dl, items_dt, methL, methD, arg0, arg1, arg2, appendW, popW, listW, get_new, set_new, isLst_new, pow109, String.reduceBEq, String.reduceEq, Bool.false_or, Bool.true_or, Bool.or_false, Bool.or_true, hlN, ea, en])).trans ?_
    refine (seq_nx (e := [some (.d (.scr ns)), some (.c 0), some (.c 1), some (.d (.lst (encS N))), some (.d (.str p.1)), some (.d (.tup (encK p.2.ins))), some (.d (.tup (encK p.2.outs))), some (.d (.lst (encR p.2.rows))), none, none]) (s := KS (encP P) (t + 1) []) (by simp only [szs, fnM, rawM, seqM, ifM, tvM, truM, binM, unM, appM, consA, nilA, varM, conM, retM, retN, asgM, expM, raiseM, passS, callF, app1, app2, noExc, isExc_d, isExc_c, bindS_ok, bindS_err, bindS_stuck, Res.bind_ok, Res.bind_err, Res.bind_stuck, onBl_bl, andT, orT, notT, andV, orV, notV, tupM, lstM, toDs, toD, asD_d, asD_new, frzW_d, newT, newL, slM, slW, someO, noneO, ixW, addW, subW, mulW, modW, cmpW, negW, lenW, intW, tabW, isNonB, isNonW, isNon_d, List.map_cons, List.map_nil, List.length_cons, List.length_nil, List.replicate, List.append_nil, List.nil_append, List.cons_append, List.getElem?_cons_zero, List.getElem?_cons_succ, List.set_cons_zero, List.set_cons_succ, Nat.reduceAdd, Nat.reduceSub, if_true, if_false, ite_true, ite_false, Bool.not_true, Bool.not_false, Bool.and_true, Bool.and_false, Bool.false_eq_true, reduceIte, fin_same, finE_same, fin_new, atI_0, atI_1, atI_2, eqW_ofs, look_ofs, look_nil, dspC, newDc, inW, Option.isSome_some, Option.isSome_none, itM, forM, items_dl, items_dt, methL, methD, arg0, arg1, arg2, appendW, popW, listW, get_new, set_new, isLst_new, pow109, String.reduceBEq, String.reduceEq, Bool.false_or, Bool.true_or, Bool.or_false, Bool.or_true, asgTM, asd, hlk, sets])).trans ?_
    refine (seq_nx (e := [some (.d (.scr ns)), some (.c 0), some (.c 1), some (.d (.lst (encS N))), some (.d (.str p.1)), some (.d (.tup (encK p.2.ins))), some (.d (.tup (encK p.2.outs))), some (.d (.lst (encR p.2.rows))), some (.d (.int b)), none]) (s := KS (encP P) (t + 1 + 1) []) (by simp only [szs, fnM, rawM, seqM, ifM, tvM, truM, binM, unM, appM, consA, nilA, varM, conM, retM, retN, asgM, expM, raiseM, passS, callF, app1, app2, noExc, isExc_d, isExc_c, bindS_ok, bindS_err, bindS_stuck, Res.bind_ok, Res.bind_err, Res.bind_stuck, onBl_bl, andT, orT, notT, andV, orV, notV, tupM, lstM, toDs, toD, asD_d, asD_new, frzW_d, newT, newL, slM, slW, someO, noneO, ixW, addW, subW, mulW, modW, cmpW, negW, lenW, intW, tabW, isNonB, isNonW, isNon_d, List.map_cons, List.map_nil, List.length_cons, List.length_nil, List.replicate, List.append_nil, List.nil_append, List.cons_append, List.getElem?_cons_zero, List.getElem?_cons_succ, List.set_cons_zero, List.set_cons_succ, Nat.reduceAdd, Nat.reduceSub, if_true, if_false, ite_true, ite_false, Bool.not_true, Bool.not_false, Bool.and_true, Bool.and_false, Bool.false_eq_true, reduceIte, fin_same, finE_same, fin_new, atI_0, atI_1, atI_2, eqW_ofs, look_ofs, look_nil, dspC, newDc, inW, Option.isSome_some, Option.isSome_none, itM, forM, items_dl, items_dt, methL, methD, arg0, arg1, arg2, appendW, popW, listW, get_new, set_new, isLst_new, pow109, String.reduceBEq, String.reduceEq, Bool.false_or, Bool.true_or, Bool.or_false, Bool.or_true, hlR, eb])).trans ?_
    exact seq_nx (by simp only [szs, fnM, rawM, seqM, ifM, tvM, truM, binM, unM, appM, consA, nilA, varM, conM, retM, retN, asgM, expM, raiseM, passS, callF, app1, app2, noExc, isExc_d, isExc_c, bindS_ok, bindS_err, bindS_stuck, Res.bind_ok, Res.bind_err, Res.bind_stuck, onBl_bl, andT, orT, notT, andV, orV, notV, tupM, lstM, toDs, toD, asD_d, asD_new, frzW_d, newT, newL, slM, slW, someO, noneO, ixW, addW, subW, mulW, modW, cmpW, negW, lenW, intW, tabW, isNonB, isNonW, isNon_d, List.map_cons, List.map_nil, List.length_cons, List.length_nil, List.replicate, List.append_nil, List.nil_append, List.cons_append, List.getElem?_cons_zero, List.getElem?_cons_succ, List.set_cons_zero, List.set_cons_succ, Nat.reduceAdd, Nat.reduceSub, if_true, if_false, ite_true, ite_false, Bool.not_true, Bool.not_false, Bool.and_true, Bool.and_false, Bool.false_eq_true, reduceIte, fin_same, finE_same, fin_new, atI_0, atI_1, atI_2, eqW_ofs, look_ofs, look_nil, dspC, newDc, inW, Option.isSome_some, Option.isSome_none, itM, forM, items_dl, items_dt, methL, methD, arg0, arg1, arg2, appendW, popW, listW, get_new, set_new, isLst_new, pow109, String.reduceBEq, String.reduceEq, Bool.false_or, Bool.true_or, Bool.or_false, Bool.or_true, E, ew])
  -- the end
  have hzP : (encP P).length < sizeLine := lt_line (by rw [List.length_map]; omega)
  have fin2 : ∀ (i o : List Kd) (R : List Rw) (t2 : Int), i.length ≤ 60 → o.length ≤ 60 → R.length ≤ 2001 → (∀ r ∈ R, r.ok) → t ≤ t2 → t2 ≤ t + 150 →
      b_spoilt [some (.d (.scr ns)), some (.c 0), some (.c 1), none, none, none, none, none, none, none] (KS (encP P) t []) = seqM (setDM (varM 2) (varM 4) (tupM (consA (varM 5) (consA (varM 6) (consA (varM 7) nilA))))) (retM (varM 4)) (E (.tup (encK i)) (.tup (encK o)) (.lst (encR R))) (KS (encP P) t2 []) →
      ∃ (P' : Prg) (t' : Int) (n : Str), SomeP P' ∧ t ≤ t' ∧ t' ≤ t + 150 ∧ (∀ p ∈ P', p.2.rows.length ≤ 2001) ∧ n ∈ P'.map (·.1) ∧ s_spoilt [.d (.scr ns), .c 0, .c 1] (KS (encP P) t []) = .ok (.d (.str n)) (KS (encP P') t' []) := fun i o R t2 hi ho hR hRo g0 g1 h => by
    have hput := putP P p.1 ⟨i, o, R⟩
    have hput' : putD (encP P) p.1 (.tup [.tup (encK i), .tup (encK o), .lst (encR R)]) = encP (putA P p.1 ⟨i, o, R⟩) := hput
    have hpl := putA_len_mem (v := (⟨i, o, R⟩ : Blk)) (show (p.1, p.2) ∈ P from hp)
    refine ⟨putA P p.1 ⟨i, o, R⟩, t2, p.1, ⟨hP.ok.put (hP.ok.nm p hp) ⟨hi, ho, by show R.length ≤ 3000; omega, hRo⟩, by omega, by omega⟩, g0, g1, ?_, by rw [putA_keys, if_pos (List.any_eq_true.mpr ⟨p, hp, by simp⟩)]; exact List.mem_map.mpr ⟨p, hp, rfl⟩, (fnM_ret rfl (h.trans ?_)).trans (fin_K (encP P) _ t t2 _)⟩
    · intro q hq
      rcases putA_mem hq with z | z
      · have := hr q z; omega
      · subst z; exact hR
    · simp only [szs, fnM, rawM, seqM, ifM, tvM, truM, binM, unM, appM, consA, nilA, varM, conM, retM, retN, asgM, expM, raiseM, passS, callF, app1, app2, noExc, isExc_d, isExc_c, bindS_ok, bindS_err, bindS_stuck, Res.bind_ok, Res.bind_err, Res.bind_stuck, onBl_bl, andT, orT, notT, andV, orV, notV, tupM, lstM, toDs, toD, asD_d, asD_new, frzW_d, newT, newL, slM, slW, someO, noneO, ixW, addW, subW, mulW, modW, cmpW, negW, lenW, intW, tabW, isNonB, isNonW, isNon_d, List.map_cons, List.map_nil, List.length_cons, List.length_nil, List.replicate, List.append_nil, List.nil_append, List.cons_append, List.getElem?_cons_zero, List.getElem?_cons_succ, List.set_cons_zero, List.set_cons_succ, Nat.reduceAdd, Nat.reduceSub, if_true, if_false, ite_true, ite_false, Bool.not_true, Bool.not_false, Bool.and_true, Bool.and_false, Bool.false_eq_true, reduceIte, fin_same, finE_same, fin_new, atI_0, atI_1, atI_2, eqW_ofs, look_ofs, look_nil, dspC, newDc, inW, Option.isSome_some, Option.isSome_none, itM, forM, items_dl, items_dt, methL, methD, arg0, arg1, arg2, appendW, popW, listW, get_new, set_new, isLst_new, pow109, String.reduceBEq, String.reduceEq, Bool.false_or, Bool.true_or, Bool.or_false, Bool.or_true, E, setDM, hzP, hput']
  have tk : ∀ r ∈ p.2.rows.take b.toNat, r.ok := fun r h => hb.ro r (List.mem_of_mem_take h)
  have df : ∀ m, ∀ r ∈ p.2.rows.drop m, r.ok := fun m r h => hb.ro r (List.mem_of_mem_drop h)
  obtain ⟨rr, t3, hrr, q1, q2, er⟩ := raw_rowK ns (encP P) [] (t + 1 + 1 + 1) (by omega) (by omega) N hNn (by omega) (by omega)
  have wne : ∀ x : Int, w ≠ x → (w == x) = false := fun x h => by simpa using h
  by_cases h2 : w < 2
  · have happ : encR (p.2.rows.take b.toNat) ++ [rr.enc] ++ encR (p.2.rows.drop (b.toNat + 1)) = encR (p.2.rows.take b.toNat ++ [rr] ++ p.2.rows.drop (b.toNat + 1)) := by simp
    have hz : (encR (p.2.rows.take b.toNat ++ [rr] ++ p.2.rows.drop (b.toNat + 1))).length ≤ sizeLine := small (by rw [List.length_map, List.length_append, List.length_append, List.length_take, List.length_drop, List.length_singleton]; omega)
    have hz0 : (encR (p.2.rows.take b.toNat) ++ [rr.enc]).length ≤ sizeLine := small (by rw [List.length_append, List.length_map, List.length_take, List.length_singleton]; omega)
    refine fin2 p.2.ins p.2.outs (p.2.rows.take b.toNat ++ [rr] ++ p.2.rows.drop (b.toNat + 1)) t3 hb.si hb.so (by rw [List.length_append, List.length_append, List.length_take, List.length_drop, List.length_singleton]; omega) ?_ (by omega) (by omega) ?_
    · intro r h
      rcases List.mem_append.mp h with h | h
      · rcases List.mem_append.mp h with h | h
        · exact tk r h
        · rw [List.mem_singleton] at h; subst h; exact hrr
      · exact df _ r h
    · unfold b_spoilt
      refine (pre _).trans ?_
      refine (seq_nx (e := E (.tup (encK p.2.ins)) (.tup (encK p.2.outs)) (.lst (encR (p.2.rows.take b.toNat ++ [rr] ++ p.2.rows.drop (b.toNat + 1))))) (s := KS (encP P) t3 []) (by simp only [szs, fnM, rawM, seqM, ifM, tvM, truM, binM, unM, appM, consA, nilA, varM, conM, retM, retN, asgM, expM, raiseM, passS, callF, app1, app2, noExc, isExc_d, isExc_c, bindS_ok, bindS_err, bindS_stuck, Res.bind_ok, Res.bind_err, Res.bind_stuck, onBl_bl, andT, orT, notT, andV, orV, notV, tupM, lstM, toDs, toD, asD_d, asD_new, frzW_d, newT, newL, slM, slW, someO, noneO, ixW, addW, subW, mulW, modW, cmpW, negW, lenW, intW, tabW, isNonB, isNonW, isNon_d, List.map_cons, List.map_nil, List.length_cons, List.length_nil, List.replicate, List.append_nil, List.nil_append, List.cons_append, List.getElem?_cons_zero, List.getElem?_cons_succ, List.set_cons_zero, List.set_cons_succ, Nat.reduceAdd, Nat.reduceSub, if_true, if_false, ite_true, ite_false, Bool.not_true, Bool.not_false, Bool.and_true, Bool.and_false, Bool.false_eq_true, reduceIte, fin_same, finE_same, fin_new, atI_0, atI_1, atI_2, eqW_ofs, look_ofs, look_nil, dspC, newDc, inW, Option.isSome_some, Option.isSome_none, itM, forM, items_dl, items_dt, methL, methD, arg0, arg1, arg2, appendW, popW, listW, get_new, set_new, isLst_new, pow109, String.reduceBEq, String.reduceEq, Bool.false_or, Bool.true_or, Bool.or_false, Bool.or_true, E, ltW, h2, decide_true, hct, hzt, er, hz0, hcf1, hzf1, happ, hz])).trans ?_
      refine (seq_nx (e := E (.tup (encK p.2.ins)) (.tup (encK p.2.outs)) (.lst (encR (p.2.rows.take b.toNat ++ [rr] ++ p.2.rows.drop (b.toNat + 1))))) (s := KS (encP P) t3 []) (by simp only [szs, fnM, rawM, seqM, ifM, tvM, truM, binM, unM, appM, consA, nilA, varM, conM, retM, retN, asgM, expM, raiseM, passS, callF, app1, app2, noExc, isExc_d, isExc_c, bindS_ok, bindS_err, bindS_stuck, Res.bind_ok, Res.bind_err, Res.bind_stuck, onBl_bl, andT, orT, notT, andV, orV, notV, tupM, lstM, toDs, toD, asD_d, asD_new, frzW_d, newT, newL, slM, slW, someO, noneO, ixW, addW, subW, mulW, modW, cmpW, negW, lenW, intW, tabW, isNonB, isNonW, isNon_d, List.map_cons, List.map_nil, List.length_cons, List.length_nil, List.replicate, List.append_nil, List.nil_append, List.cons_append, List.getElem?_cons_zero, List.getElem?_cons_succ, List.set_cons_zero, List.set_cons_succ, Nat.reduceAdd, Nat.reduceSub, if_true, if_false, ite_true, ite_false, Bool.not_true, Bool.not_false, Bool.and_true, Bool.and_false, Bool.false_eq_true, reduceIte, fin_same, finE_same, fin_new, atI_0, atI_1, atI_2, eqW_ofs, look_ofs, look_nil, dspC, newDc, inW, Option.isSome_some, Option.isSome_none, itM, forM, items_dl, items_dt, methL, methD, arg0, arg1, arg2, appendW, popW, listW, get_new, set_new, isLst_new, pow109, String.reduceBEq, String.reduceEq, Bool.false_or, Bool.true_or, Bool.or_false, Bool.or_true, E, eqW_int, wne 2 (by omega)])).trans ?_
      refine (seq_nx (e := E (.tup (encK p.2.ins)) (.tup (encK p.2.outs)) (.lst (encR (p.2.rows.take b.toNat ++ [rr] ++ p.2.rows.drop (b.toNat + 1))))) (s := KS (encP P) t3 []) (by simp only [szs, fnM, rawM, seqM, ifM, tvM, truM, binM, unM, appM, consA, nilA, varM, conM, retM, retN, asgM, expM, raiseM, passS, callF, app1, app2, noExc, isExc_d, isExc_c, bindS_ok, bindS_err, bindS_stuck, Res.bind_ok, Res.bind_err, Res.bind_stuck, onBl_bl, andT, orT, notT, andV, orV, notV, tupM, lstM, toDs, toD, asD_d, asD_new, frzW_d, newT, newL, slM, slW, someO, noneO, ixW, addW, subW, mulW, modW, cmpW, negW, lenW, intW, tabW, isNonB, isNonW, isNon_d, List.map_cons, List.map_nil, List.length_cons, List.length_nil, List.replicate, List.append_nil, List.nil_append, List.cons_append, List.getElem?_cons_zero, List.getElem?_cons_succ, List.set_cons_zero, List.set_cons_succ, Nat.reduceAdd, Nat.reduceSub, if_true, if_false, ite_true, ite_false, Bool.not_true, Bool.not_false, Bool.and_true, Bool.and_false, Bool.false_eq_true, reduceIte, fin_same, finE_same, fin_new, atI_0, atI_1, atI_2, eqW_ofs, look_ofs, look_nil, dspC, newDc, inW, Option.isSome_some, Option.isSome_none, itM, forM, items_dl, items_dt, methL, methD, arg0, arg1, arg2, appendW, popW, listW, get_new, set_new, isLst_new, pow109, String.reduceBEq, String.reduceEq, Bool.false_or, Bool.true_or, Bool.or_false, Bool.or_true, E, eqW_int, wne 3 (by omega)])).trans ?_
      refine (seq_nx (e := E (.tup (encK p.2.ins)) (.tup (encK p.2.outs)) (.lst (encR (p.2.rows.take b.toNat ++ [rr] ++ p.2.rows.drop (b.toNat + 1))))) (s := KS (encP P) t3 []) (by simp only [szs, fnM, rawM, seqM, ifM, tvM, truM, binM, unM, appM, consA, nilA, varM, conM, retM, retN, asgM, expM, raiseM, passS, callF, app1, app2, noExc, isExc_d, isExc_c, bindS_ok, bindS_err, bindS_stuck, Res.bind_ok, Res.bind_err, Res.bind_stuck, onBl_bl, andT, orT, notT, andV, orV, notV, tupM, lstM, toDs, toD, asD_d, asD_new, frzW_d, newT, newL, slM, slW, someO, noneO, ixW, addW, subW, mulW, modW, cmpW, negW, lenW, intW, tabW, isNonB, isNonW, isNon_d, List.map_cons, List.map_nil, List.length_cons, List.length_nil, List.replicate, List.append_nil, List.nil_append, List.cons_append, List.getElem?_cons_zero, List.getElem?_cons_succ, List.set_cons_zero, List.set_cons_succ, Nat.reduceAdd, Nat.reduceSub, if_true, if_false, ite_true, ite_false, Bool.not_true, Bool.not_false, Bool.and_true, Bool.and_false, Bool.false_eq_true, reduceIte, fin_same, finE_same, fin_new, atI_0, atI_1, atI_2, eqW_ofs, look_ofs, look_nil, dspC, newDc, inW, Option.isSome_some, Option.isSome_none, itM, forM, items_dl, items_dt, methL, methD, arg0, arg1, arg2, appendW, popW, listW, get_new, set_new, isLst_new, pow109, String.reduceBEq, String.reduceEq, Bool.false_or, Bool.true_or, Bool.or_false, Bool.or_true, E, eqW_int, wne 4 (by omega)])).trans ?_
      exact seq_nx (by simp only [szs, fnM, rawM, seqM, ifM, tvM, truM, binM, unM, appM, consA, nilA, varM, conM, retM, retN, asgM, expM, raiseM, passS, callF, app1, app2, noExc, isExc_d, isExc_c, bindS_ok, bindS_err, bindS_stuck, Res.bind_ok, Res.bind_err, Res.bind_stuck, onBl_bl, andT, orT, notT, andV, orV, notV, tupM, lstM, toDs, toD, asD_d, asD_new, frzW_d, newT, newL, slM, slW, someO, noneO, ixW, addW, subW, mulW, modW, cmpW, negW, lenW, intW, tabW, isNonB, isNonW, isNon_d, List.map_cons, List.map_nil, List.length_cons, List.length_nil, List.replicate, List.append_nil, List.nil_append, List.cons_append, List.getElem?_cons_zero, List.getElem?_cons_succ, List.set_cons_zero, List.set_cons_succ, Nat.reduceAdd, Nat.reduceSub, if_true, if_false, ite_true, ite_false, Bool.not_true, Bool.not_false, Bool.and_true, Bool.and_false, Bool.false_eq_true, reduceIte, fin_same, finE_same, fin_new, atI_0, atI_1, atI_2, eqW_ofs, look_ofs, look_nil, dspC, newDc, inW, Option.isSome_some, Option.isSome_none, itM, forM, items_dl, items_dt, methL, methD, arg0, arg1, arg2, appendW, popW, listW, get_new, set_new, isLst_new, pow109, String.reduceBEq, String.reduceEq, Bool.false_or, Bool.true_or, Bool.or_false, Bool.or_true, E, eqW_int, wne 5 (by omega)])
  · have h2' : decide (w < 2) = false := decide_eq_false h2
    by_cases w2 : w = 2
    · subst w2
      have happ : encR (p.2.rows.take b.toNat) ++ [rr.enc] ++ encR (p.2.rows.drop b.toNat) = encR (p.2.rows.take b.toNat ++ [rr] ++ p.2.rows.drop b.toNat) := by simp
      have hz : (encR (p.2.rows.take b.toNat ++ [rr] ++ p.2.rows.drop b.toNat)).length ≤ sizeLine := small (by rw [List.length_map, List.length_append, List.length_append, List.length_take, List.length_drop, List.length_singleton]; omega)
      have hz0 : (encR (p.2.rows.take b.toNat) ++ [rr.enc]).length ≤ sizeLine := small (by rw [List.length_append, List.length_map, List.length_take, List.length_singleton]; omega)
      refine fin2 p.2.ins p.2.outs (p.2.rows.take b.toNat ++ [rr] ++ p.2.rows.drop b.toNat) t3 hb.si hb.so (by rw [List.length_append, List.length_append, List.length_take, List.length_drop, List.length_singleton]; omega) ?_ (by omega) (by omega) ?_
      · intro r h
        rcases List.mem_append.mp h with h | h
        · rcases List.mem_append.mp h with h | h
          · exact tk r h
          · rw [List.mem_singleton] at h; subst h; exact hrr
        · exact df _ r h
      · unfold b_spoilt
        refine (pre _).trans ?_
        refine (seq_nx (e := E (.tup (encK p.2.ins)) (.tup (encK p.2.outs)) (.lst (encR p.2.rows))) (s := KS (encP P) (t + 1 + 1 + 1) []) (by simp only [szs, fnM, rawM, seqM, ifM, tvM, truM, binM, unM, appM, consA, nilA, varM, conM, retM, retN, asgM, expM, raiseM, passS, callF, app1, app2, noExc, isExc_d, isExc_c, bindS_ok, bindS_err, bindS_stuck, Res.bind_ok, Res.bind_err, Res.bind_stuck, onBl_bl, andT, orT, notT, andV, orV, notV, tupM, lstM, toDs, toD, asD_d, asD_new, frzW_d, newT, newL, slM, slW, someO, noneO, ixW, addW, subW, mulW, modW, cmpW, negW, lenW, intW, tabW, isNonB, isNonW, isNon_d, List.map_cons, List.map_nil, List.length_cons, List.length_nil, List.replicate, List.append_nil, List.nil_append, List.cons_append, List.getElem?_cons_zero, List.getElem?_cons_succ, List.set_cons_zero, List.set_cons_succ, Nat.reduceAdd, Nat.reduceSub, if_true, if_false, ite_true, ite_false, Bool.not_true, Bool.not_false, Bool.and_true, Bool.and_false, Bool.false_eq_true, reduceIte, fin_same, finE_same, fin_new, atI_0, atI_1, atI_2, eqW_ofs, look_ofs, look_nil, dspC, newDc, inW, Option.isSome_some, Option.isSome_none, itM, forM, items_dl, items_dt, methL, methD, arg0, arg1, arg2, appendW, popW, listW, get_new, set_new, isLst_new, pow109, String.reduceBEq, String.reduceEq, Bool.false_or, Bool.true_or, Bool.or_false, Bool.or_true, E, ltW, h2'])).trans ?_
        refine (seq_nx (e := E (.tup (encK p.2.ins)) (.tup (encK p.2.outs)) (.lst (encR (p.2.rows.take b.toNat ++ [rr] ++ p.2.rows.drop b.toNat)))) (s := KS (encP P) t3 []) (by simp only [szs, fnM, rawM, seqM, ifM, tvM, truM, binM, unM, appM, consA, nilA, varM, conM, retM, retN, asgM, expM, raiseM, passS, callF, app1, app2, noExc, isExc_d, isExc_c, bindS_ok, bindS_err, bindS_stuck, Res.bind_ok, Res.bind_err, Res.bind_stuck, onBl_bl, andT, orT, notT, andV, orV, notV, tupM, lstM, toDs, toD, asD_d, asD_new, frzW_d, newT, newL, slM, slW, someO, noneO, ixW, addW, subW, mulW, modW, cmpW, negW, lenW, intW, tabW, isNonB, isNonW, isNon_d, List.map_cons, List.map_nil, List.length_cons, List.length_nil, List.replicate, List.append_nil, List.nil_append, List.cons_append, List.getElem?_cons_zero, List.getElem?_cons_succ, List.set_cons_zero, List.set_cons_succ, Nat.reduceAdd, Nat.reduceSub, if_true, if_false, ite_true, ite_false, Bool.not_true, Bool.not_false, Bool.and_true, Bool.and_false, Bool.false_eq_true, reduceIte, fin_same, finE_same, fin_new, atI_0, atI_1, atI_2, eqW_ofs, look_ofs, look_nil, dspC, newDc, inW, Option.isSome_some, Option.isSome_none, itM, forM, items_dl, items_dt, methL, methD, arg0, arg1, arg2, appendW, popW, listW, get_new, set_new, isLst_new, pow109, String.reduceBEq, String.reduceEq, Bool.false_or, Bool.true_or, Bool.or_false, Bool.or_true, E, eqW_int, beq_self_eq_true, hct, hzt, er, hz0, hcf, hzf, happ, hz])).trans ?_
        refine (seq_nx (e := E (.tup (encK p.2.ins)) (.tup (encK p.2.outs)) (.lst (encR (p.2.rows.take b.toNat ++ [rr] ++ p.2.rows.drop b.toNat)))) (s := KS (encP P) t3 []) (by simp only [szs, fnM, rawM, seqM, ifM, tvM, truM, binM, unM, appM, consA, nilA, varM, conM, retM, retN, asgM, expM, raiseM, passS, callF, app1, app2, noExc, isExc_d, isExc_c, bindS_ok, bindS_err, bindS_stuck, Res.bind_ok, Res.bind_err, Res.bind_stuck, onBl_bl, andT, orT, notT, andV, orV, notV, tupM, lstM, toDs, toD, asD_d, asD_new, frzW_d, newT, newL, slM, slW, someO, noneO, ixW, addW, subW, mulW, modW, cmpW, negW, lenW, intW, tabW, isNonB, isNonW, isNon_d, List.map_cons, List.map_nil, List.length_cons, List.length_nil, List.replicate, List.append_nil, List.nil_append, List.cons_append, List.getElem?_cons_zero, List.getElem?_cons_succ, List.set_cons_zero, List.set_cons_succ, Nat.reduceAdd, Nat.reduceSub, if_true, if_false, ite_true, ite_false, Bool.not_true, Bool.not_false, Bool.and_true, Bool.and_false, Bool.false_eq_true, reduceIte, fin_same, finE_same, fin_new, atI_0, atI_1, atI_2, eqW_ofs, look_ofs, look_nil, dspC, newDc, inW, Option.isSome_some, Option.isSome_none, itM, forM, items_dl, items_dt, methL, methD, arg0, arg1, arg2, appendW, popW, listW, get_new, set_new, isLst_new, pow109, String.reduceBEq, String.reduceEq, Bool.false_or, Bool.true_or, Bool.or_false, Bool.or_true, E, eqW_int, wne 3 (by omega)])).trans ?_
        refine (seq_nx (e := E (.tup (encK p.2.ins)) (.tup (encK p.2.outs)) (.lst (encR (p.2.rows.take b.toNat ++ [rr] ++ p.2.rows.drop b.toNat)))) (s := KS (encP P) t3 []) (by simp only [szs, fnM, rawM, seqM, ifM, tvM, truM, binM, unM, appM, consA, nilA, varM, conM, retM, retN, asgM, expM, raiseM, passS, callF, app1, app2, noExc, isExc_d, isExc_c, bindS_ok, bindS_err, bindS_stuck, Res.bind_ok, Res.bind_err, Res.bind_stuck, onBl_bl, andT, orT, notT, andV, orV, notV, tupM, lstM, toDs, toD, asD_d, asD_new, frzW_d, newT, newL, slM, slW, someO, noneO, ixW, addW, subW, mulW, modW, cmpW, negW, lenW, intW, tabW, isNonB, isNonW, isNon_d, List.map_cons, List.map_nil, List.length_cons, List.length_nil, List.replicate, List.append_nil, List.nil_append, List.cons_append, List.getElem?_cons_zero, List.getElem?_cons_succ, List.set_cons_zero, List.set_cons_succ, Nat.reduceAdd, Nat.reduceSub, if_true, if_false, ite_true, ite_false, Bool.not_true, Bool.not_false, Bool.and_true, Bool.and_false, Bool.false_eq_true, reduceIte, fin_same, finE_same, fin_new, atI_0, atI_1, atI_2, eqW_ofs, look_ofs, look_nil, dspC, newDc, inW, Option.isSome_some, Option.isSome_none, itM, forM, items_dl, items_dt, methL, methD, arg0, arg1, arg2, appendW, popW, listW, get_new, set_new, isLst_new, pow109, String.reduceBEq, String.reduceEq, Bool.false_or, Bool.true_or, Bool.or_false, Bool.or_true, E, eqW_int, wne 4 (by omega)])).trans ?_
        exact seq_nx (by simp only [szs, fnM, rawM, seqM, ifM, tvM, truM, binM, unM, appM, consA, nilA, varM, conM, retM, retN, asgM, expM, raiseM, passS, callF, app1, app2, noExc, isExc_d, isExc_c, bindS_ok, bindS_err, bindS_stuck, Res.bind_ok, Res.bind_err, Res.bind_stuck, onBl_bl, andT, orT, notT, andV, orV, notV, tupM, lstM, toDs, toD, asD_d, asD_new, frzW_d, newT, newL, slM, slW, someO, noneO, ixW, addW, subW, mulW, modW, cmpW, negW, lenW, intW, tabW, isNonB, isNonW, isNon_d, List.map_cons, List.map_nil, List.length_cons, List.length_nil, List.replicate, List.append_nil, List.nil_append, List.cons_append, List.getElem?_cons_zero, List.getElem?_cons_succ, List.set_cons_zero, List.set_cons_succ, Nat.reduceAdd, Nat.reduceSub, if_true, if_false, ite_true, ite_false, Bool.not_true, Bool.not_false, Bool.and_true, Bool.and_false, Bool.false_eq_true, reduceIte, fin_same, finE_same, fin_new, atI_0, atI_1, atI_2, eqW_ofs, look_ofs, look_nil, dspC, newDc, inW, Option.isSome_some, Option.isSome_none, itM, forM, items_dl, items_dt, methL, methD, arg0, arg1, arg2, appendW, popW, listW, get_new, set_new, isLst_new, pow109, String.reduceBEq, String.reduceEq, Bool.false_or, Bool.true_or, Bool.or_false, Bool.or_true, E, eqW_int, wne 5 (by omega)])
    · by_cases w3 : w = 3
      · subst w3
        have happ : encR (p.2.rows.take b.toNat) ++ encR (p.2.rows.drop (b.toNat + 1)) = encR (p.2.rows.take b.toNat ++ p.2.rows.drop (b.toNat + 1)) := by simp
        have hz : (encR (p.2.rows.take b.toNat ++ p.2.rows.drop (b.toNat + 1))).length ≤ sizeLine := small (by rw [List.length_map, List.length_append, List.length_take, List.length_drop]; omega)
        refine fin2 p.2.ins p.2.outs (p.2.rows.take b.toNat ++ p.2.rows.drop (b.toNat + 1)) (t + 1 + 1 + 1) hb.si hb.so (by rw [List.length_append, List.length_take, List.length_drop]; omega) ?_ (by omega) (by omega) ?_
        · intro r h
          rcases List.mem_append.mp h with h | h
          · exact tk r h
          · exact df _ r h
        · unfold b_spoilt
          refine (pre _).trans ?_
          refine (seq_nx (e := E (.tup (encK p.2.ins)) (.tup (encK p.2.outs)) (.lst (encR p.2.rows))) (s := KS (encP P) (t + 1 + 1 + 1) []) (by simp only [szs, fnM, rawM, seqM, ifM, tvM, truM, binM, unM, appM, consA, nilA, varM, conM, retM, retN, asgM, expM, raiseM, passS, callF, app1, app2, noExc, isExc_d, isExc_c, bindS_ok, bindS_err, bindS_stuck, Res.bind_ok, Res.bind_err, Res.bind_stuck, onBl_bl, andT, orT, notT, andV, orV, notV, tupM, lstM, toDs, toD, asD_d, asD_new, frzW_d, newT, newL, slM, slW, someO, noneO, ixW, addW, subW, mulW, modW, cmpW, negW, lenW, intW, tabW, isNonB, isNonW, isNon_d, List.map_cons, List.map_nil, List.length_cons, List.length_nil, List.replicate, List.append_nil, List.nil_append, List.cons_append, List.getElem?_cons_zero, List.getElem?_cons_succ, List.set_cons_zero, List.set_cons_succ, Nat.reduceAdd, Nat.reduceSub, if_true, if_false, ite_true, ite_false, Bool.not_true, Bool.not_false, Bool.and_true, Bool.and_false, Bool.false_eq_true, reduceIte, fin_same, finE_same, fin_new, atI_0, atI_1, atI_2, eqW_ofs, look_ofs, look_nil, dspC, newDc, inW, Option.isSome_some, Option.isSome_none, itM, forM, items_dl, items_dt, methL, methD, arg0, arg1, arg2, appendW, popW, listW, get_new, set_new, isLst_new, pow109, String.reduceBEq, String.reduceEq, Bool.false_or, Bool.true_or, Bool.or_false, Bool.or_true, E, ltW, h2'])).trans ?_
          refine (seq_nx (e := E (.tup (encK p.2.ins)) (.tup (encK p.2.outs)) (.lst (encR p.2.rows))) (s := KS (encP P) (t + 1 + 1 + 1) []) (by simp only [szs, fnM, rawM, seqM, ifM, tvM, truM, binM, unM, appM, consA, nilA, varM, conM, retM, retN, asgM, expM, raiseM, passS, callF, app1, app2, noExc, isExc_d, isExc_c, bindS_ok, bindS_err, bindS_stuck, Res.bind_ok, Res.bind_err, Res.bind_stuck, onBl_bl, andT, orT, notT, andV, orV, notV, tupM, lstM, toDs, toD, asD_d, asD_new, frzW_d, newT, newL, slM, slW, someO, noneO, ixW, addW, subW, mulW, modW, cmpW, negW, lenW, intW, tabW, isNonB, isNonW, isNon_d, List.map_cons, List.map_nil, List.length_cons, List.length_nil, List.replicate, List.append_nil, List.nil_append, List.cons_append, List.getElem?_cons_zero, List.getElem?_cons_succ, List.set_cons_zero, List.set_cons_succ, Nat.reduceAdd, Nat.reduceSub, if_true, if_false, ite_true, ite_false, Bool.not_true, Bool.not_false, Bool.and_true, Bool.and_false, Bool.false_eq_true, reduceIte, fin_same, finE_same, fin_new, atI_0, atI_1, atI_2, eqW_ofs, look_ofs, look_nil, dspC, newDc, inW, Option.isSome_some, Option.isSome_none, itM, forM, items_dl, items_dt, methL, methD, arg0, arg1, arg2, appendW, popW, listW, get_new, set_new, isLst_new, pow109, String.reduceBEq, String.reduceEq, Bool.false_or, Bool.true_or, Bool.or_false, Bool.or_true, E, eqW_int, wne 2 w2])).trans ?_
          refine (seq_nx (e := E (.tup (encK p.2.ins)) (.tup (encK p.2.outs)) (.lst (encR (p.2.rows.take b.toNat ++ p.2.rows.drop (b.toNat + 1))))) (s := KS (encP P) (t + 1 + 1 + 1) []) (by simp only [szs, fnM, rawM, seqM, ifM, tvM, truM, binM, unM, appM, consA, nilA, varM, conM, retM, retN, asgM, expM, raiseM, passS, callF, app1, app2, noExc, isExc_d, isExc_c, bindS_ok, bindS_err, bindS_stuck, Res.bind_ok, Res.bind_err, Res.bind_stuck, onBl_bl, andT, orT, notT, andV, orV, notV, tupM, lstM, toDs, toD, asD_d, asD_new, frzW_d, newT, newL, slM, slW, someO, noneO, ixW, addW, subW, mulW, modW, cmpW, negW, lenW, intW, tabW, isNonB, isNonW, isNon_d, List.map_cons, List.map_nil, List.length_cons, List.length_nil, List.replicate, List.append_nil, List.nil_append, List.cons_append, List.getElem?_cons_zero, List.getElem?_cons_succ, List.set_cons_zero, List.set_cons_succ, Nat.reduceAdd, Nat.reduceSub, if_true, if_false, ite_true, ite_false, Bool.not_true, Bool.not_false, Bool.and_true, Bool.and_false, Bool.false_eq_true, reduceIte, fin_same, finE_same, fin_new, atI_0, atI_1, atI_2, eqW_ofs, look_ofs, look_nil, dspC, newDc, inW, Option.isSome_some, Option.isSome_none, itM, forM, items_dl, items_dt, methL, methD, arg0, arg1, arg2, appendW, popW, listW, get_new, set_new, isLst_new, pow109, String.reduceBEq, String.reduceEq, Bool.false_or, Bool.true_or, Bool.or_false, Bool.or_true, E, eqW_int, beq_self_eq_true, hct, hzt, hcf1, hzf1, happ, hz])).trans ?_
          refine (seq_nx (e := E (.tup (encK p.2.ins)) (.tup (encK p.2.outs)) (.lst (encR (p.2.rows.take b.toNat ++ p.2.rows.drop (b.toNat + 1))))) (s := KS (encP P) (t + 1 + 1 + 1) []) (by simp only [szs, fnM, rawM, seqM, ifM, tvM, truM, binM, unM, appM, consA, nilA, varM, conM, retM, retN, asgM, expM, raiseM, passS, callF, app1, app2, noExc, isExc_d, isExc_c, bindS_ok, bindS_err, bindS_stuck, Res.bind_ok, Res.bind_err, Res.bind_stuck, onBl_bl, andT, orT, notT, andV, orV, notV, tupM, lstM, toDs, toD, asD_d, asD_new, frzW_d, newT, newL, slM, slW, someO, noneO, ixW, addW, subW, mulW, modW, cmpW, negW, lenW, intW, tabW, isNonB, isNonW, isNon_d, List.map_cons, List.map_nil, List.length_cons, List.length_nil, List.replicate, List.append_nil, List.nil_append, List.cons_append, List.getElem?_cons_zero, List.getElem?_cons_succ, List.set_cons_zero, List.set_cons_succ, Nat.reduceAdd, Nat.reduceSub, if_true, if_false, ite_true, ite_false, Bool.not_true, Bool.not_false, Bool.and_true, Bool.and_false, Bool.false_eq_true, reduceIte, fin_same, finE_same, fin_new, atI_0, atI_1, atI_2, eqW_ofs, look_ofs, look_nil, dspC, newDc, inW, Option.isSome_some, Option.isSome_none, itM, forM, items_dl, items_dt, methL, methD, arg0, arg1, arg2, appendW, popW, listW, get_new, set_new, isLst_new, pow109, String.reduceBEq, String.reduceEq, Bool.false_or, Bool.true_or, Bool.or_false, Bool.or_true, E, eqW_int, wne 4 (by omega)])).trans ?_
          exact seq_nx (by simp only [szs, fnM, rawM, seqM, ifM, tvM, truM, binM, unM, appM, consA, nilA, varM, conM, retM, retN, asgM, expM, raiseM, passS, callF, app1, app2, noExc, isExc_d, isExc_c, bindS_ok, bindS_err, bindS_stuck, Res.bind_ok, Res.bind_err, Res.bind_stuck, onBl_bl, andT, orT, notT, andV, orV, notV, tupM, lstM, toDs, toD, asD_d, asD_new, frzW_d, newT, newL, slM, slW, someO, noneO, ixW, addW, subW, mulW, modW, cmpW, negW, lenW, intW, tabW, isNonB, isNonW, isNon_d, List.map_cons, List.map_nil, List.length_cons, List.length_nil, List.replicate, List.append_nil, List.nil_append, List.cons_append, List.getElem?_cons_zero, List.getElem?_cons_succ, List.set_cons_zero, List.set_cons_succ, Nat.reduceAdd, Nat.reduceSub, if_true, if_false, ite_true, ite_false, Bool.not_true, Bool.not_false, Bool.and_true, Bool.and_false, Bool.false_eq_true, reduceIte, fin_same, finE_same, fin_new, atI_0, atI_1, atI_2, eqW_ofs, look_ofs, look_nil, dspC, newDc, inW, Option.isSome_some, Option.isSome_none, itM, forM, items_dl, items_dt, methL, methD, arg0, arg1, arg2, appendW, popW, listW, get_new, set_new, isLst_new, pow109, String.reduceBEq, String.reduceEq, Bool.false_or, Bool.true_or, Bool.or_false, Bool.or_true, E, eqW_int, wne 5 (by omega)])
      · obtain ⟨kk, t4, hkk, g1, g2, ek⟩ := kinds_2K ns (encP P) [] (t + 1 + 1 + 1) (by omega) (by omega)
        have pre2 : ∀ rest : MS, b_spoilt [some (.d (.scr ns)), some (.c 0), some (.c 1), none, none, none, none, none, none, none] (KS (encP P) t []) = seqM (ifM (tvM (binM (eqW false) (varM 9) (conM (.int 4))))
            (asgM 6 (callF s_kinds_2 (consA (varM 0) (consA (varM 1) nilA))))
            passS)
            (seqM (ifM (tvM (binM (eqW false) (varM 9) (conM (.int 5))))
            (asgM 5 (callF s_kinds_2 (consA (varM 0) (consA (varM 1) nilA))))
            passS)
            (seqM (setDM (varM 2) (varM 4) (tupM (consA (varM 5) (consA (varM 6) (consA (varM 7) nilA))))) (retM (varM 4)))) (E (.tup (encK p.2.ins)) (.tup (encK p.2.outs)) (.lst (encR p.2.rows))) (KS (encP P) (t + 1 + 1 + 1) []) := fun rest => by
          unfold b_spoilt
          refine (pre _).trans ?_
          refine (seq_nx (e := E (.tup (encK p.2.ins)) (.tup (encK p.2.outs)) (.lst (encR p.2.rows))) (s := KS (encP P) (t + 1 + 1 + 1) []) (by simp only [szs, fnM, rawM, seqM, ifM, tvM, truM, binM, unM, appM, consA, nilA, varM, conM, retM, retN, asgM, expM, raiseM, passS, callF, app1, app2, noExc, isExc_d, isExc_c, bindS_ok, bindS_err, bindS_stuck, Res.bind_ok, Res.bind_err, Res.bind_stuck, onBl_bl, andT, orT, notT, andV, orV, notV, tupM, lstM, toDs, toD, asD_d, asD_new, frzW_d, newT, newL, slM, slW, someO, noneO, ixW, addW, subW, mulW, modW, cmpW, negW, lenW, intW, tabW, isNonB, isNonW, isNon_d, List.map_cons, List.map_nil, List.length_cons, List.length_nil, List.replicate, List.append_nil, List.nil_append, List.cons_append, List.getElem?_cons_zero, List.getElem?_cons_succ, List.set_cons_zero, List.set_cons_succ, Nat.reduceAdd, Nat.reduceSub, if_true, if_false, ite_true, ite_false, Bool.not_true, Bool.not_false, Bool.and_true, Bool.and_false, Bool.false_eq_true, reduceIte, fin_same, finE_same, fin_new, atI_0, atI_1, atI_2, eqW_ofs, look_ofs, look_nil, dspC, newDc, inW, Option.isSome_some, Option.isSome_none, itM, forM, items_dl, items_dt, methL, methD, arg0, arg1, arg2, appendW, popW, listW, get_new, set_new, isLst_new, pow109, String.reduceBEq, String.reduceEq, Bool.false_or, Bool.true_or, Bool.or_false, Bool.or_true, E, ltW, h2'])).trans ?_
          refine (seq_nx (e := E (.tup (encK p.2.ins)) (.tup (encK p.2.outs)) (.lst (encR p.2.rows))) (s := KS (encP P) (t + 1 + 1 + 1) []) (by simp only [szs, fnM, rawM, seqM, ifM, tvM, truM, binM, unM, appM, consA, nilA, varM, conM, retM, retN, asgM, expM, raiseM, passS, callF, app1, app2, noExc, isExc_d, isExc_c, bindS_ok, bindS_err, bindS_stuck, Res.bind_ok, Res.bind_err, Res.bind_stuck, onBl_bl, andT, orT, notT, andV, orV, notV, tupM, lstM, toDs, toD, asD_d, asD_new, frzW_d, newT, newL, slM, slW, someO, noneO, ixW, addW, subW, mulW, modW, cmpW, negW, lenW, intW, tabW, isNonB, isNonW, isNon_d, List.map_cons, List.map_nil, List.length_cons, List.length_nil, List.replicate, List.append_nil, List.nil_append, List.cons_append, List.getElem?_cons_zero, List.getElem?_cons_succ, List.set_cons_zero, List.set_cons_succ, Nat.reduceAdd, Nat.reduceSub, if_true, if_false, ite_true, ite_false, Bool.not_true, Bool.not_false, Bool.and_true, Bool.and_false, Bool.false_eq_true, reduceIte, fin_same, finE_same, fin_new, atI_0, atI_1, atI_2, eqW_ofs, look_ofs, look_nil, dspC, newDc, inW, Option.isSome_some, Option.isSome_none, itM, forM, items_dl, items_dt, methL, methD, arg0, arg1, arg2, appendW, popW, listW, get_new, set_new, isLst_new, pow109, String.reduceBEq, String.reduceEq, Bool.false_or, Bool.true_or, Bool.or_false, Bool.or_true, E, eqW_int, wne 2 w2])).trans ?_
          exact seq_nx (by simp only [szs, fnM, rawM, seqM, ifM, tvM, truM, binM, unM, appM, consA, nilA, varM, conM, retM, retN, asgM, expM, raiseM, passS, callF, app1, app2, noExc, isExc_d, isExc_c, bindS_ok, bindS_err, bindS_stuck, Res.bind_ok, Res.bind_err, Res.bind_stuck, onBl_bl, andT, orT, notT, andV, orV, notV, tupM, lstM, toDs, toD, asD_d, asD_new, frzW_d, newT, newL, slM, slW, someO, noneO, ixW, addW, subW, mulW, modW, cmpW, negW, lenW, intW, tabW, isNonB, isNonW, isNon_d, List.map_cons, List.map_nil, List.length_cons, List.length_nil, List.replicate, List.append_nil, List.nil_append, List.cons_append, List.getElem?_cons_zero, List.getElem?_cons_succ, List.set_cons_zero, List.set_cons_succ, Nat.reduceAdd, Nat.reduceSub, if_true, if_false, ite_true, ite_false, Bool.not_true, Bool.not_false, Bool.and_true, Bool.and_false, Bool.false_eq_true, reduceIte, fin_same, finE_same, fin_new, atI_0, atI_1, atI_2, eqW_ofs, look_ofs, look_nil, dspC, newDc, inW, Option.isSome_some, Option.isSome_none, itM, forM, items_dl, items_dt, methL, methD, arg0, arg1, arg2, appendW, popW, listW, get_new, set_new, isLst_new, pow109, String.reduceBEq, String.reduceEq, Bool.false_or, Bool.true_or, Bool.or_false, Bool.or_true, E, eqW_int, wne 3 w3])
        by_cases w4 : w = 4
        · subst w4
          refine fin2 p.2.ins kk p.2.rows t4 hb.si hkk (by omega) hb.ro (by omega) (by omega) ?_
          refine (pre2 passS).trans ?_
          refine (seq_nx (e := E (.tup (encK p.2.ins)) (.tup (encK kk)) (.lst (encR p.2.rows))) (s := KS (encP P) t4 []) (by simp only [szs, fnM, rawM, seqM, ifM, tvM, truM, binM, unM, appM, consA, nilA, varM, conM, retM, retN, asgM, expM, raiseM, passS, callF, app1, app2, noExc, isExc_d, isExc_c, bindS_ok, bindS_err, bindS_stuck, Res.bind_ok, Res.bind_err, Res.bind_stuck, onBl_bl, andT, orT, notT, andV, orV, notV, tupM, lstM, toDs, toD, asD_d, asD_new, frzW_d, newT, newL, slM, slW, someO, noneO, ixW, addW, subW, mulW, modW, cmpW, negW, lenW, intW, tabW, isNonB, isNonW, isNon_d, List.map_cons, List.map_nil, List.length_cons, List.length_nil, List.replicate, List.append_nil, List.nil_append, List.cons_append, List.getElem?_cons_zero, List.getElem?_cons_succ, List.set_cons_zero, List.set_cons_succ, Nat.reduceAdd, Nat.reduceSub, if_true, if_false, ite_true, ite_false, Bool.not_true, Bool.not_false, Bool.and_true, Bool.and_false, Bool.false_eq_true, reduceIte, fin_same, finE_same, fin_new, atI_0, atI_1, atI_2, eqW_ofs, look_ofs, look_nil, dspC, newDc, inW, Option.isSome_some, Option.isSome_none, itM, forM, items_dl, items_dt, methL, methD, arg0, arg1, arg2, appendW, popW, listW, get_new, set_new, isLst_new, pow109, String.reduceBEq, String.reduceEq, Bool.false_or, Bool.true_or, Bool.or_false, Bool.or_true, E, eqW_int, beq_self_eq_true, ek])).trans ?_
          exact seq_nx (by simp only [szs, fnM, rawM, seqM, ifM, tvM, truM, binM, unM, appM, consA, nilA, varM, conM, retM, retN, asgM, expM, raiseM, passS, callF, app1, app2, noExc, isExc_d, isExc_c, bindS_ok, bindS_err, bindS_stuck, Res.bind_ok, Res.bind_err, Res.bind_stuck, onBl_bl, andT, orT, notT, andV, orV, notV, tupM, lstM, toDs, toD, asD_d, asD_new, frzW_d, newT, newL, slM, slW, someO, noneO, ixW, addW, subW, mulW, modW, cmpW, negW, lenW, intW, tabW, isNonB, isNonW, isNon_d, List.map_cons, List.map_nil, List.length_cons, List.length_nil, List.replicate, List.append_nil, List.nil_append, List.cons_append, List.getElem?_cons_zero, List.getElem?_cons_succ, List.set_cons_zero, List.set_cons_succ, Nat.reduceAdd, Nat.reduceSub, if_true, if_false, ite_true, ite_false, Bool.not_true, Bool.not_false, Bool.and_true, Bool.and_false, Bool.false_eq_true, reduceIte, fin_same, finE_same, fin_new, atI_0, atI_1, atI_2, eqW_ofs, look_ofs, look_nil, dspC, newDc, inW, Option.isSome_some, Option.isSome_none, itM, forM, items_dl, items_dt, methL, methD, arg0, arg1, arg2, appendW, popW, listW, get_new, set_new, isLst_new, pow109, String.reduceBEq, String.reduceEq, Bool.false_or, Bool.true_or, Bool.or_false, Bool.or_true, E, eqW_int, wne 5 (by omega)])
        · have w5 : w = 5 := by omega
          subst w5
          refine fin2 kk p.2.outs p.2.rows t4 hkk hb.so (by omega) hb.ro (by omega) (by omega) ?_
          refine (pre2 passS).trans ?_
          refine (seq_nx (e := E (.tup (encK p.2.ins)) (.tup (encK p.2.outs)) (.lst (encR p.2.rows))) (s := KS (encP P) (t + 1 + 1 + 1) []) (by simp only [szs, fnM, rawM, seqM, ifM, tvM, truM, binM, unM, appM, consA, nilA, varM, conM, retM, retN, asgM, expM, raiseM, passS, callF, app1, app2, noExc, isExc_d, isExc_c, bindS_ok, bindS_err, bindS_stuck, Res.bind_ok, Res.bind_err, Res.bind_stuck, onBl_bl, andT, orT, notT, andV, orV, notV, tupM, lstM, toDs, toD, asD_d, asD_new, frzW_d, newT, newL, slM, slW, someO, noneO, ixW, addW, subW, mulW, modW, cmpW, negW, lenW, intW, tabW, isNonB, isNonW, isNon_d, List.map_cons, List.map_nil, List.length_cons, List.length_nil, List.replicate, List.append_nil, List.nil_append, List.cons_append, List.getElem?_cons_zero, List.getElem?_cons_succ, List.set_cons_zero, List.set_cons_succ, Nat.reduceAdd, Nat.reduceSub, if_true, if_false, ite_true, ite_false, Bool.not_true, Bool.not_false, Bool.and_true, Bool.and_false, Bool.false_eq_true, reduceIte, fin_same, finE_same, fin_new, atI_0, atI_1, atI_2, eqW_ofs, look_ofs, look_nil, dspC, newDc, inW, Option.isSome_some, Option.isSome_none, itM, forM, items_dl, items_dt, methL, methD, arg0, arg1, arg2, appendW, popW, listW, get_new, set_new, isLst_new, pow109, String.reduceBEq, String.reduceEq, Bool.false_or, Bool.true_or, Bool.or_false, Bool.or_true, E, eqW_int, wne 4 w4])).trans ?_
          exact seq_nx (by simp only [szs, fnM, rawM, seqM, ifM, tvM, truM, binM, unM, appM, consA, nilA, varM, conM, retM, retN, asgM, expM, raiseM, passS, callF, app1, app2, noExc, isExc_d, isExc_c, bindS_ok, bindS_err, bindS_stuck, Res.bind_ok, Res.bind_err, Res.bind_stuck, onBl_bl, andT, orT, notT, andV, orV, notV, tupM, lstM, toDs, toD, asD_d, asD_new, frzW_d, newT, newL, slM, slW, someO, noneO, ixW, addW, subW, mulW, modW, cmpW, negW, lenW, intW, tabW, isNonB, isNonW, isNon_d, List.map_cons, List.map_nil, List.length_cons, List.length_nil, List.replicate, List.append_nil, List.nil_append, List.cons_append, List.getElem?_cons_zero, List.getElem?_cons_succ, List.set_cons_zero, List.set_cons_succ, Nat.reduceAdd, Nat.reduceSub, if_true, if_false, ite_true, ite_false, Bool.not_true, Bool.not_false, Bool.and_true, Bool.and_false, Bool.false_eq_true, reduceIte, fin_same, finE_same, fin_new, atI_0, atI_1, atI_2, eqW_ofs, look_ofs, look_nil, dspC, newDc, inW, Option.isSome_some, Option.isSome_none, itM, forM, items_dl, items_dt, methL, methD, arg0, arg1, arg2, appendW, popW, listW, get_new, set_new, isLst_new, pow109, String.reduceBEq, String.reduceEq, Bool.false_or, Bool.true_or, Bool.or_false, Bool.or_true, E, eqW_int, beq_self_eq_true, ek])
end Py

namespace Py
open PySem L2
/-! ### a block's way, as the law goes it -/
abbrev encKK (l : List (List Kd)) : List D := l.map fun ks => .tup (encK ks)
noncomputable abbrev walkB : MS := (seqM (asgTM [7, 8] (callF s_next (consA (varM 0) (consA (appM (app1 (listW false)) (consA (binM ixW (varM 5) (unM negW (conM (.int 1)))) nilA)) (consA (varM 6) nilA)))))
  (seqM (ifM (tvM (binM (eqW true) (varM 7) (conM (.str ""))))
  (retM (tupM (consA (varM 5) (consA (varM 7) nilA))))
  passS)
  (expM (methL (arg1 appendW) (varM 5) (consA (appM (app1 tupleW) (consA (varM 8) nilA)) nilA)))))
theorem last_KK (l : List (List Kd)) (ks : List Kd) : atI (encKK (l ++ [ks])) (-1) = some (.tup (encK ks)) := by
  have := atI_neg (encKK (l ++ [ks])) 1 (by decide) (by simp)
  rw [show (-((1 : Nat) : Int)) = -1 from rfl] at this
  rw [this]
  simp
theorem walk_loop (w : W) (kvs : List (Str × D)) (f : Tl) (st : Store) (hw : asD st w = some (.dct kvs)) (hs : Sees kvs f) (hf : Small f) (x1 x2 x3 x4 : Option W) : ∀ (rs : List Rw) (l : List (List Kd)) (ks : List Kd) (x6 x7 x8 : Option W), (∀ r ∈ rs, r.ok) → ks.length + 60 * rs.length ≤ 300000 → l.length + rs.length ≤ 800000 →
    ∃ y6 y7 y8, loopS (.name 6) walkB (encR rs) [some w, x1, x2, x3, x4, some (.c st.length), x6, x7, x8] (st ++ [.lst (encKK (l ++ [ks]))])
      = match (trailK f ks rs).2 with
        | some e => .ret (.d (.tup [.lst (encKK (l ++ (trailK f ks rs).1)), .str (Str.ofString (excS e))])) (st ++ [.frz (.lst (encKK (l ++ (trailK f ks rs).1)))])
        | none => .nx [some w, x1, x2, x3, x4, some (.c st.length), y6, y7, y8] (st ++ [.lst (encKK (l ++ (trailK f ks rs).1))])
  | [], l, ks, x6, x7, x8, _, _, _ => ⟨x6, x7, x8, rfl⟩
  | r :: rs, l, ks, x6, x7, x8, hr, hl, hll => by
    have hx : w.isExc = false := noExc_of hw
    have hw2 := asD_app hw [Cell.lst (encKK (l ++ [ks]))]
    simp only [List.length_cons] at hl hll
    obtain ⟨k2, en⟩ := next_ok w kvs f ks r (st ++ [.lst (encKK (l ++ [ks]))]) hw2 hs hf (hr r List.mem_cons_self) (by omega)
    have hzk : (encK ks).length ≤ sizeLine := small (by rw [List.length_map]; omega)
    cases q : nextK f ks r with
    | error e =>
      rw [q] at en
      have hne : (excS e == "") = false := by cases e <;> rfl
      refine ⟨none, none, none, ?_⟩
      have e2 : (trailK f ks (r :: rs)) = ([ks], some e) := by simp only [trailK, q]
      rw [e2]
      simp only
      refine loopS_ret rfl ?_
      have eA : asgTM [7, 8] (callF s_next (consA (varM 0) (consA (appM (app1 (listW false)) (consA (binM ixW (varM 5) (unM negW (conM (.int 1)))) nilA)) (consA (varM 6) nilA)))) [some w, x1, x2, x3, x4, some (.c st.length), some (.d r.enc), x7, x8] (st ++ [.lst (encKK (l ++ [ks]))])
          = .nx [some w, x1, x2, x3, x4, some (.c st.length), some (.d r.enc), some (.d (.str (Str.ofString (excS e)))), some (.d (.lst (encK k2)))] (st ++ [.lst (encKK (l ++ [ks]))]) := by
        simp only [szs, fnM, rawM, seqM, ifM, tvM, truM, binM, unM, appM, consA, nilA, varM, conM, retM, retN, asgM, expM, raiseM, passS, callF, app1, app2, noExc, isExc_d, isExc_c, bindS_ok, bindS_err, bindS_stuck, Res.bind_ok, Res.bind_err, Res.bind_stuck, onBl_bl, andT, orT, notT, andV, orV, notV, tupM, lstM, toDs, toD, asD_d, asD_new, frzW_d, newT, newL, slM, slW, someO, noneO, ixW, addW, subW, mulW, modW, cmpW, negW, lenW, intW, tabW, isNonB, isNonW, isNon_d, List.map_cons, List.map_nil, List.length_cons, List.length_nil, List.replicate, List.append_nil, List.nil_append, List.cons_append, List.getElem?_cons_zero, List.getElem?_cons_succ, List.set_cons_zero, List.set_cons_succ, Nat.reduceAdd, Nat.reduceSub, if_true, if_false, ite_true, ite_false, Bool.not_true, Bool.not_false, Bool.and_true, Bool.and_false, Bool.false_eq_true, reduceIte, fin_same, finE_same, fin_new, atI_0, atI_1, atI_2, eqW_ofs, look_ofs, look_nil, dspC, newDc, inW, Option.isSome_some, Option.isSome_none, itM, forM, items_dl, items_dt, methL, methD, arg0, arg1, arg2, appendW, popW, listW, get_new, set_new, isLst_new, pow109, String.reduceBEq, String.reduceEq, Bool.false_or, Bool.true_or, Bool.or_false, Bool.or_true, asgTM, Int.reduceNeg, last_KK, hzk, hx, en, resD, sets]
      refine (seq_nx eA).trans ?_
      have hfz : frzW (.c st.length) (.lst (encKK (l ++ [ks]))) (st ++ [.lst (encKK (l ++ [ks]))]) = st ++ [.frz (.lst (encKK (l ++ [ks])))] := by
        show (st ++ [Cell.lst (encKK (l ++ [ks]))]).set st.length _ = _
        rw [set_new]
      refine seq_ret ((if_t (s := st ++ [.lst (encKK (l ++ [ks]))]) (by simp only [szs, fnM, rawM, seqM, ifM, tvM, truM, binM, unM, appM, consA, nilA, varM, conM, retM, retN, asgM, expM, raiseM, passS, callF, app1, app2, noExc, isExc_d, isExc_c, bindS_ok, bindS_err, bindS_stuck, Res.bind_ok, Res.bind_err, Res.bind_stuck, onBl_bl, andT, orT, notT, andV, orV, notV, tupM, lstM, toDs, toD, asD_d, asD_new, frzW_d, newT, newL, slM, slW, someO, noneO, ixW, addW, subW, mulW, modW, cmpW, negW, lenW, intW, tabW, isNonB, isNonW, isNon_d, List.map_cons, List.map_nil, List.length_cons, List.length_nil, List.replicate, List.append_nil, List.nil_append, List.cons_append, List.getElem?_cons_zero, List.getElem?_cons_succ, List.set_cons_zero, List.set_cons_succ, Nat.reduceAdd, Nat.reduceSub, if_true, if_false, ite_true, ite_false, Bool.not_true, Bool.not_false, Bool.and_true, Bool.and_false, Bool.false_eq_true, reduceIte, fin_same, finE_same, fin_new, atI_0, atI_1, atI_2, eqW_ofs, look_ofs, look_nil, dspC, newDc, inW, Option.isSome_some, Option.isSome_none, itM, forM, items_dl, items_dt, methL, methD, arg0, arg1, arg2, appendW, popW, listW, get_new, set_new, isLst_new, pow109, String.reduceBEq, String.reduceEq, Bool.false_or, Bool.true_or, Bool.or_false, Bool.or_true, hne])).trans ?_)
      simp only [szs, fnM, rawM, seqM, ifM, tvM, truM, binM, unM, appM, consA, nilA, varM, conM, retM, retN, asgM, expM, raiseM, passS, callF, app1, app2, noExc, isExc_d, isExc_c, bindS_ok, bindS_err, bindS_stuck, Res.bind_ok, Res.bind_err, Res.bind_stuck, onBl_bl, andT, orT, notT, andV, orV, notV, tupM, lstM, toDs, toD, asD_d, asD_new, frzW_d, newT, newL, slM, slW, someO, noneO, ixW, addW, subW, mulW, modW, cmpW, negW, lenW, intW, tabW, isNonB, isNonW, isNon_d, List.map_cons, List.map_nil, List.length_cons, List.length_nil, List.replicate, List.append_nil, List.nil_append, List.cons_append, List.getElem?_cons_zero, List.getElem?_cons_succ, List.set_cons_zero, List.set_cons_succ, Nat.reduceAdd, Nat.reduceSub, if_true, if_false, ite_true, ite_false, Bool.not_true, Bool.not_false, Bool.and_true, Bool.and_false, Bool.false_eq_true, reduceIte, fin_same, finE_same, fin_new, atI_0, atI_1, atI_2, eqW_ofs, look_ofs, look_nil, dspC, newDc, inW, Option.isSome_some, Option.isSome_none, itM, forM, items_dl, items_dt, methL, methD, arg0, arg1, arg2, appendW, popW, listW, get_new, set_new, isLst_new, pow109, String.reduceBEq, String.reduceEq, Bool.false_or, Bool.true_or, Bool.or_false, Bool.or_true, hfz]
    | ok k' =>
      rw [q, resD_ok] at en
      have hk' := nextK_len2 hf q
      have e2 : (trailK f ks (r :: rs)) = (ks :: (trailK f k' rs).1, (trailK f k' rs).2) := by simp only [trailK, q]
      have hzk' : (encK k').length ≤ sizeLine := small (by rw [List.length_map]; omega)
      have happ : encKK (l ++ [ks]) ++ [D.tup (encK k')] = encKK ((l ++ [ks]) ++ [k']) := by simp
      have hzl : (encKK (l ++ [ks])).length < sizeLine := lt_line (by rw [List.length_map, List.length_append, List.length_singleton]; omega)
      have eA : walkB [some w, x1, x2, x3, x4, some (.c st.length), some (.d r.enc), x7, x8] (st ++ [.lst (encKK (l ++ [ks]))])
          = .nx [some w, x1, x2, x3, x4, some (.c st.length), some (.d r.enc), some (.d (.str "")), some (.d (.lst (encK k')))] (st ++ [.lst (encKK ((l ++ [ks]) ++ [k']))]) := by
        refine (seq_nx (e := [some w, x1, x2, x3, x4, some (.c st.length), some (.d r.enc), some (.d (.str "")), some (.d (.lst (encK k')))]) (s := st ++ [.lst (encKK (l ++ [ks]))]) (by simp only [szs, fnM, rawM, seqM, ifM, tvM, truM, binM, unM, appM, consA, nilA, varM, conM, retM, retN, asgM, expM, raiseM, passS, callF, app1, app2, noExc, isExc_d, isExc_c, bindS_ok, bindS_err, bindS_stuck, Res.bind_ok, Res.bind_err, Res.bind_stuck, onBl_bl, andT, orT, notT, andV, orV, notV, tupM, lstM, toDs, toD, asD_d, asD_new, frzW_d, newT, newL, slM, slW, someO, noneO, ixW, addW, subW, mulW, modW, cmpW, negW, lenW, intW, tabW, isNonB, isNonW, isNon_d, List.map_cons, List.map_nil, List.length_cons, List.length_nil, List.replicate, List.append_nil, List.nil_append, List.cons_append, List.getElem?_cons_zero, List.getElem?_cons_succ, List.set_cons_zero, List.set_cons_succ, Nat.reduceAdd, Nat.reduceSub, if_true, if_false, ite_true, ite_false, Bool.not_true, Bool.not_false, Bool.and_true, Bool.and_false, Bool.false_eq_true, reduceIte, fin_same, finE_same, fin_new, atI_0, atI_1, atI_2, eqW_ofs, look_ofs, look_nil, dspC, newDc, inW, Option.isSome_some, Option.isSome_none, itM, forM, items_dl, items_dt, methL, methD, arg0, arg1, arg2, appendW, popW, listW, get_new, set_new, isLst_new, pow109, String.reduceBEq, String.reduceEq, Bool.false_or, Bool.true_or, Bool.or_false, Bool.or_true, asgTM, Int.reduceNeg, last_KK, hzk, hx, en, sets])).trans ?_
        refine (seq_nx (e := [some w, x1, x2, x3, x4, some (.c st.length), some (.d r.enc), some (.d (.str "")), some (.d (.lst (encK k')))]) (s := st ++ [.lst (encKK (l ++ [ks]))]) (by simp only [szs, fnM, rawM, seqM, ifM, tvM, truM, binM, unM, appM, consA, nilA, varM, conM, retM, retN, asgM, expM, raiseM, passS, callF, app1, app2, noExc, isExc_d, isExc_c, bindS_ok, bindS_err, bindS_stuck, Res.bind_ok, Res.bind_err, Res.bind_stuck, onBl_bl, andT, orT, notT, andV, orV, notV, tupM, lstM, toDs, toD, asD_d, asD_new, frzW_d, newT, newL, slM, slW, someO, noneO, ixW, addW, subW, mulW, modW, cmpW, negW, lenW, intW, tabW, isNonB, isNonW, isNon_d, List.map_cons, List.map_nil, List.length_cons, List.length_nil, List.replicate, List.append_nil, List.nil_append, List.cons_append, List.getElem?_cons_zero, List.getElem?_cons_succ, List.set_cons_zero, List.set_cons_succ, Nat.reduceAdd, Nat.reduceSub, if_true, if_false, ite_true, ite_false, Bool.not_true, Bool.not_false, Bool.and_true, Bool.and_false, Bool.false_eq_true, reduceIte, fin_same, finE_same, fin_new, atI_0, atI_1, atI_2, eqW_ofs, look_ofs, look_nil, dspC, newDc, inW, Option.isSome_some, Option.isSome_none, itM, forM, items_dl, items_dt, methL, methD, arg0, arg1, arg2, appendW, popW, listW, get_new, set_new, isLst_new, pow109, String.reduceBEq, String.reduceEq, Bool.false_or, Bool.true_or, Bool.or_false, Bool.or_true, beq_self_eq_true])).trans ?_
        simp only [szs, fnM, rawM, seqM, ifM, tvM, truM, binM, unM, appM, consA, nilA, varM, conM, retM, retN, asgM, expM, raiseM, passS, callF, app1, app2, noExc, isExc_d, isExc_c, bindS_ok, bindS_err, bindS_stuck, Res.bind_ok, Res.bind_err, Res.bind_stuck, onBl_bl, andT, orT, notT, andV, orV, notV, tupM, lstM, toDs, toD, asD_d, asD_new, frzW_d, newT, newL, slM, slW, someO, noneO, ixW, addW, subW, mulW, modW, cmpW, negW, lenW, intW, tabW, isNonB, isNonW, isNon_d, List.map_cons, List.map_nil, List.length_cons, List.length_nil, List.replicate, List.append_nil, List.nil_append, List.cons_append, List.getElem?_cons_zero, List.getElem?_cons_succ, List.set_cons_zero, List.set_cons_succ, Nat.reduceAdd, Nat.reduceSub, if_true, if_false, ite_true, ite_false, Bool.not_true, Bool.not_false, Bool.and_true, Bool.and_false, Bool.false_eq_true, reduceIte, fin_same, finE_same, fin_new, atI_0, atI_1, atI_2, eqW_ofs, look_ofs, look_nil, dspC, newDc, inW, Option.isSome_some, Option.isSome_none, itM, forM, items_dl, items_dt, methL, methD, arg0, arg1, arg2, appendW, popW, listW, get_new, set_new, isLst_new, pow109, String.reduceBEq, String.reduceEq, Bool.false_or, Bool.true_or, Bool.or_false, Bool.or_true, tupleW, hzk', hzl, happ]
      obtain ⟨y6, y7, y8, ih⟩ := walk_loop w kvs f st hw hs hf x1 x2 x3 x4 rs (l ++ [ks]) k' (some (.d r.enc)) (some (.d (.str ""))) (some (.d (.lst (encK k')))) (fun x hx => hr x (List.mem_cons_of_mem _ hx)) (by omega) (by rw [List.length_append, List.length_singleton]; omega)
      refine ⟨y6, y7, y8, ?_⟩
      refine (loopS_nx rfl eA).trans (ih.trans ?_)
      rw [e2]
      simp only [List.append_assoc, List.singleton_append]
theorem trail_last {f : Tl} {ks : List Kd} {rs : List Rw} : ∃ l k', (trailK f ks rs).1 = l ++ [k'] ∧ (trailK f ks rs).1.getLast? = some k' := by
  have := trailK_ne f ks rs
  refine ⟨(trailK f ks rs).1.dropLast, (trailK f ks rs).1.getLast this, (List.dropLast_concat_getLast this).symm, List.getLast?_eq_some_getLast this⟩
theorem fin_grow (st : Store) (x : D) (c : Cell) (hc : ∀ fs, c ≠ .obj fs) : fin st (.d x) (st ++ [c]) = .ok (.d x) st := by
  unfold fin
  rw [if_pos]
  · simp
  · exact ⟨by simp, fun k fs hk h => by rwa [List.getElem?_append_left hk] at h⟩
theorem walked_ok (w : W) (st : Store) (P : Prg) (n : Str) (b : Blk) (hw : asD st w = some (.dct (encP P))) (hP : PrgOk P) (hb : lookA n P = some b) :
    s_walked [w, .d (.str n)] st = .ok (.d (.tup [.lst (encKK (wayK (telP P) b).1), .str (Str.ofString (wayK (telP P) b).2)])) st := by
  have hx : w.isExc = false := noExc_of hw
  have hbo : BlkOk b := hP.bl _ (lookA_mem hb)
  have hlk : look n (encP P) = some (.tup [.tup (encK b.ins), .tup (encK b.outs), .lst (encR b.rows)]) := by rw [lookP, hb]; rfl
  have hsi := hbo.si
  have hsr := hbo.sr
  obtain ⟨y6, y7, y8, e⟩ := walk_loop w (encP P) (telP P) st hw (sees_P P) hP.small (some (.d (.str n))) (some (.d (.tup (encK b.ins)))) (some (.d (.tup (encK b.outs)))) (some (.d (.lst (encR b.rows)))) b.rows [] b.ins none none none hbo.ro (by omega) (by simp; omega)
  simp only [List.nil_append] at e
  have htl := trailK_len (telP P) b.rows b.ins
  have pre : ∀ rest : MS, seqM (asgTM [2, 3, 4] (binM ixW (varM 0) (varM 1))) (seqM (asgM 5 (lstM true (consA (varM 2) nilA))) rest) [some w, some (.d (.str n)), none, none, none, none, none, none, none] st
      = rest [some w, some (.d (.str n)), some (.d (.tup (encK b.ins))), some (.d (.tup (encK b.outs))), some (.d (.lst (encR b.rows))), some (.c st.length), none, none, none] (st ++ [.lst (encKK [b.ins])]) := fun rest => by
    refine (seq_nx (e := [some w, some (.d (.str n)), some (.d (.tup (encK b.ins))), some (.d (.tup (encK b.outs))), some (.d (.lst (encR b.rows))), none, none, none, none]) (s := st) (by simp only [szs, fnM, rawM, seqM, ifM, tvM, truM, binM, unM, appM, consA, nilA, varM, conM, retM, retN, asgM, expM, raiseM, passS, callF, app1, app2, noExc, isExc_d, isExc_c, bindS_ok, bindS_err, bindS_stuck, Res.bind_ok, Res.bind_err, Res.bind_stuck, onBl_bl, andT, orT, notT, andV, orV, notV, tupM, lstM, toDs, toD, asD_d, asD_new, frzW_d, newT, newL, slM, slW, someO, noneO, ixW, addW, subW, mulW, modW, cmpW, negW, lenW, intW, tabW, isNonB, isNonW, isNon_d, List.map_cons, List.map_nil, List.length_cons, List.length_nil, List.replicate, List.append_nil, List.nil_append, List.cons_append, List.getElem?_cons_zero, List.getElem?_cons_succ, List.set_cons_zero, List.set_cons_succ, Nat.reduceAdd, Nat.reduceSub, if_true, if_false, ite_true, ite_false, Bool.not_true, Bool.not_false, Bool.and_true, Bool.and_false, Bool.false_eq_true, reduceIte, fin_same, finE_same, fin_new, atI_0, atI_1, atI_2, eqW_ofs, look_ofs, look_nil, dspC, newDc, inW, Option.isSome_some, Option.isSome_none, itM, forM, items_dl, items_dt, methL, methD, arg0, arg1, arg2, appendW, popW, listW, get_new, set_new, isLst_new, pow109, String.reduceBEq, String.reduceEq, Bool.false_or, Bool.true_or, Bool.or_false, Bool.or_true, asgTM, hw, hlk, sets])).trans ?_
    exact seq_nx (by simp only [szs, fnM, rawM, seqM, ifM, tvM, truM, binM, unM, appM, consA, nilA, varM, conM, retM, retN, asgM, expM, raiseM, passS, callF, app1, app2, noExc, isExc_d, isExc_c, bindS_ok, bindS_err, bindS_stuck, Res.bind_ok, Res.bind_err, Res.bind_stuck, onBl_bl, andT, orT, notT, andV, orV, notV, tupM, lstM, toDs, toD, asD_d, asD_new, frzW_d, newT, newL, slM, slW, someO, noneO, ixW, addW, subW, mulW, modW, cmpW, negW, lenW, intW, tabW, isNonB, isNonW, isNon_d, List.map_cons, List.map_nil, List.length_cons, List.length_nil, List.replicate, List.append_nil, List.nil_append, List.cons_append, List.getElem?_cons_zero, List.getElem?_cons_succ, List.set_cons_zero, List.set_cons_succ, Nat.reduceAdd, Nat.reduceSub, if_true, if_false, ite_true, ite_false, Bool.not_true, Bool.not_false, Bool.and_true, Bool.and_false, Bool.false_eq_true, reduceIte, fin_same, finE_same, fin_new, atI_0, atI_1, atI_2, eqW_ofs, look_ofs, look_nil, dspC, newDc, inW, Option.isSome_some, Option.isSome_none, itM, forM, items_dl, items_dt, methL, methD, arg0, arg1, arg2, appendW, popW, listW, get_new, set_new, isLst_new, pow109, String.reduceBEq, String.reduceEq, Bool.false_or, Bool.true_or, Bool.or_false, Bool.or_true])
  unfold s_walked wayK endsK
  cases q : (trailK (telP P) b.ins b.rows).2 with
  | some c =>
    rw [q] at e
    refine (fnM_ret rfl ?_).trans (fin_grow st _ (.frz (.lst (encKK (trailK (telP P) b.ins b.rows).1))) (fun _ h => by cases h))
    unfold b_walked
    refine (pre _).trans (seq_ret ?_)
    unfold forM itM
    simp only [szs, fnM, rawM, seqM, ifM, tvM, truM, binM, unM, appM, consA, nilA, varM, conM, retM, retN, asgM, expM, raiseM, passS, callF, app1, app2, noExc, isExc_d, isExc_c, bindS_ok, bindS_err, bindS_stuck, Res.bind_ok, Res.bind_err, Res.bind_stuck, onBl_bl, andT, orT, notT, andV, orV, notV, tupM, lstM, toDs, toD, asD_d, asD_new, frzW_d, newT, newL, slM, slW, someO, noneO, ixW, addW, subW, mulW, modW, cmpW, negW, lenW, intW, tabW, isNonB, isNonW, isNon_d, List.map_cons, List.map_nil, List.length_cons, List.length_nil, List.replicate, List.append_nil, List.nil_append, List.cons_append, List.getElem?_cons_zero, List.getElem?_cons_succ, List.set_cons_zero, List.set_cons_succ, Nat.reduceAdd, Nat.reduceSub, if_true, if_false, ite_true, ite_false, Bool.not_true, Bool.not_false, Bool.and_true, Bool.and_false, Bool.false_eq_true, reduceIte, fin_same, finE_same, fin_new, atI_0, atI_1, atI_2, eqW_ofs, look_ofs, look_nil, dspC, newDc, inW, Option.isSome_some, Option.isSome_none, itM, forM, items_dl, items_dt, methL, methD, arg0, arg1, arg2, appendW, popW, listW, get_new, set_new, isLst_new, pow109, String.reduceBEq, String.reduceEq, Bool.false_or, Bool.true_or, Bool.or_false, Bool.or_true]
    exact e
  | none =>
    rw [q] at e
    obtain ⟨l, k', hl1, hl2⟩ := trail_last (f := telP P) (ks := b.ins) (rs := b.rows)
    rw [hl2]
    have hat : atI (encKK (trailK (telP P) b.ins b.rows).1) (-1) = some (.tup (encK k')) := by rw [hl1]; exact last_KK l k'
    have hfz : frzW (.c st.length) (.lst (encKK (trailK (telP P) b.ins b.rows).1)) (st ++ [.lst (encKK (trailK (telP P) b.ins b.rows).1)]) = st ++ [.frz (.lst (encKK (trailK (telP P) b.ins b.rows).1))] := by
      show (st ++ [Cell.lst _]).set st.length _ = _
      rw [set_new]
    refine (fnM_ret rfl ?_).trans (fin_grow st _ (.frz (.lst (encKK (trailK (telP P) b.ins b.rows).1))) (fun _ h => by cases h))
    unfold b_walked
    refine (pre _).trans ?_
    refine (seq_nx (e := [some w, some (.d (.str n)), some (.d (.tup (encK b.ins))), some (.d (.tup (encK b.outs))), some (.d (.lst (encR b.rows))), some (.c st.length), y6, y7, y8]) (s := st ++ [.lst (encKK (trailK (telP P) b.ins b.rows).1)]) (by
      unfold forM itM
      simp only [szs, fnM, rawM, seqM, ifM, tvM, truM, binM, unM, appM, consA, nilA, varM, conM, retM, retN, asgM, expM, raiseM, passS, callF, app1, app2, noExc, isExc_d, isExc_c, bindS_ok, bindS_err, bindS_stuck, Res.bind_ok, Res.bind_err, Res.bind_stuck, onBl_bl, andT, orT, notT, andV, orV, notV, tupM, lstM, toDs, toD, asD_d, asD_new, frzW_d, newT, newL, slM, slW, someO, noneO, ixW, addW, subW, mulW, modW, cmpW, negW, lenW, intW, tabW, isNonB, isNonW, isNon_d, List.map_cons, List.map_nil, List.length_cons, List.length_nil, List.replicate, List.append_nil, List.nil_append, List.cons_append, List.getElem?_cons_zero, List.getElem?_cons_succ, List.set_cons_zero, List.set_cons_succ, Nat.reduceAdd, Nat.reduceSub, if_true, if_false, ite_true, ite_false, Bool.not_true, Bool.not_false, Bool.and_true, Bool.and_false, Bool.false_eq_true, reduceIte, fin_same, finE_same, fin_new, atI_0, atI_1, atI_2, eqW_ofs, look_ofs, look_nil, dspC, newDc, inW, Option.isSome_some, Option.isSome_none, itM, forM, items_dl, items_dt, methL, methD, arg0, arg1, arg2, appendW, popW, listW, get_new, set_new, isLst_new, pow109, String.reduceBEq, String.reduceEq, Bool.false_or, Bool.true_or, Bool.or_false, Bool.or_true]
      exact e)).trans ?_
    by_cases h : k' = b.outs
    · subst h
      simp only [szs, fnM, rawM, seqM, ifM, tvM, truM, binM, unM, appM, consA, nilA, varM, conM, retM, retN, asgM, expM, raiseM, passS, callF, app1, app2, noExc, isExc_d, isExc_c, bindS_ok, bindS_err, bindS_stuck, Res.bind_ok, Res.bind_err, Res.bind_stuck, onBl_bl, andT, orT, notT, andV, orV, notV, tupM, lstM, toDs, toD, asD_d, asD_new, frzW_d, newT, newL, slM, slW, someO, noneO, ixW, addW, subW, mulW, modW, cmpW, negW, lenW, intW, tabW, isNonB, isNonW, isNon_d, List.map_cons, List.map_nil, List.length_cons, List.length_nil, List.replicate, List.append_nil, List.nil_append, List.cons_append, List.getElem?_cons_zero, List.getElem?_cons_succ, List.set_cons_zero, List.set_cons_succ, Nat.reduceAdd, Nat.reduceSub, if_true, if_false, ite_true, ite_false, Bool.not_true, Bool.not_false, Bool.and_true, Bool.and_false, Bool.false_eq_true, reduceIte, fin_same, finE_same, fin_new, atI_0, atI_1, atI_2, eqW_ofs, look_ofs, look_nil, dspC, newDc, inW, Option.isSome_some, Option.isSome_none, itM, forM, items_dl, items_dt, methL, methD, arg0, arg1, arg2, appendW, popW, listW, get_new, set_new, isLst_new, pow109, String.reduceBEq, String.reduceEq, Bool.false_or, Bool.true_or, Bool.or_false, Bool.or_true, Int.reduceNeg, hat, eqW_K, decide_true, hfz]
    · have h' : ¬ (some k' = some b.outs) := fun e => h (Option.some.inj e)
      simp only [szs, fnM, rawM, seqM, ifM, tvM, truM, binM, unM, appM, consA, nilA, varM, conM, retM, retN, asgM, expM, raiseM, passS, callF, app1, app2, noExc, isExc_d, isExc_c, bindS_ok, bindS_err, bindS_stuck, Res.bind_ok, Res.bind_err, Res.bind_stuck, onBl_bl, andT, orT, notT, andV, orV, notV, tupM, lstM, toDs, toD, asD_d, asD_new, frzW_d, newT, newL, slM, slW, someO, noneO, ixW, addW, subW, mulW, modW, cmpW, negW, lenW, intW, tabW, isNonB, isNonW, isNon_d, List.map_cons, List.map_nil, List.length_cons, List.length_nil, List.replicate, List.append_nil, List.nil_append, List.cons_append, List.getElem?_cons_zero, List.getElem?_cons_succ, List.set_cons_zero, List.set_cons_succ, Nat.reduceAdd, Nat.reduceSub, if_true, if_false, ite_true, ite_false, Bool.not_true, Bool.not_false, Bool.and_true, Bool.and_false, Bool.false_eq_true, reduceIte, fin_same, finE_same, fin_new, atI_0, atI_1, atI_2, eqW_ofs, look_ofs, look_nil, dspC, newDc, inW, Option.isSome_some, Option.isSome_none, itM, forM, items_dl, items_dt, methL, methD, arg0, arg1, arg2, appendW, popW, listW, get_new, set_new, isLst_new, pow109, String.reduceBEq, String.reduceEq, Bool.false_or, Bool.true_or, Bool.or_false, Bool.or_true, Int.reduceNeg, hat, eqW_K, h, h', decide_false, hfz]
end Py

namespace Py
open PySem L2
theorem excS_nn (c : Exc) : excS c ≠ "" := by cases c <;> decide
end Py

namespace Py
open PySem L2
end Py

namespace Py
open PySem L2
theorem trailK_mem (f : Tl) (hf : Small f) : ∀ (rs : List Rw) (ks : List Kd), ∀ l ∈ (trailK f ks rs).1, l.length ≤ ks.length + 60 * rs.length
  | [], ks, l, h => by
    simp only [trailK, List.mem_singleton] at h; subst h; simp
  | r :: rs, ks, l, h => by
    simp only [trailK] at h
    cases q : nextK f ks r with
    | error e =>
      rw [q] at h; simp only [List.mem_singleton] at h; subst h; omega
    | ok k' =>
      rw [q] at h
      have := nextK_len2 hf q
      rcases List.mem_cons.mp h with h | h
      · subst h; omega
      · have := trailK_mem f hf rs k' l h
        rw [List.length_cons]; omega
end Py

namespace Py
open PySem L2
/-- the program that a law looks at -/
structure Looked (P : Prg) (way : Int) : Prop where
  some : SomeP P
  good : 4 < way → GoodP P
theorem way_len (f : Tl) (b : Blk) : (wayK f b).1.length ≤ b.rows.length + 1 := trailK_len _ _ _
end Py

namespace Py
open PySem L2
/-! ### names in rows, what can be come to -/
def Rw.names : Rw → List Str
  | .plain _ => []
  | .call n => [n]
  | .iff a b => [a, b]
def named (b : Blk) : List Str := b.rows.flatMap Rw.names
inductive Rch (P : Prg) (n : Str) : Str → Prop
  | one {b : Blk} {m : Str} : lookA n P = some b → m ∈ named b → Rch P n m
  | more {b : Blk} {m k : Str} : Rch P n m → lookA m P = some b → k ∈ named b → Rch P n k
/-! ### whiles -/
theorem while_inv {c : M Bool} {b : MS} (I : Nat → Env → Store → Prop) (h : ∀ m env st, I m env st → ∃ t, c env st = .ok t st ∧ (t = true → ∃ m' env' st', m' < m ∧ b env st = .nx env' st' ∧ I m' env' st')) :
    ∀ (n m : Nat) (env : Env) (st : Store), I m env st → m < n → ∃ m' env' st', whileM c b n env st = .nx env' st' ∧ I m' env' st' ∧ c env' st' = .ok false st'
  | 0, m, env, st, _, hm => absurd hm (Nat.not_lt_zero _)
  | n + 1, m, env, st, hI, hm => by
    obtain ⟨t, e, k⟩ := h m env st hI
    cases t with
    | false => exact ⟨m, env, st, by rw [whileM_succ, e]; simp, hI, e⟩
    | true =>
      obtain ⟨m', env', st', g1, g2, g3⟩ := k rfl
      obtain ⟨m2, e2, s2, r1, r2, r3⟩ := while_inv I h n m' env' st' g3 (by omega)
      refine ⟨m2, e2, s2, ?_, r2, r3⟩
      rw [whileM_succ, e]
      simp only [bindS_ok, if_true, g2]
      exact r1
end Py

namespace Py
open PySem L2
section
variable (st : Store) (f w : List Str) (G : Store)
end
/-- the invariant of what is found, what is waiting -/
structure RI (P : Prg) (n : Str) (f w : List Str) : Prop where
  sf : ∀ m ∈ f, Rch P n m
  sw : ∀ m ∈ w, Rch P n m
  cl : ∀ m ∈ f, ∀ b, lookA m P = some b → ∀ k ∈ named b, k ∈ f ∨ k ∈ w
  st : ∀ b, lookA n P = some b → ∀ k ∈ named b, k ∈ f ∨ k ∈ w
end Py

namespace Py
open PySem L2
end Py

namespace Py
open PySem L2
theorem isi_bb (b : Bool) (st : Store) : isi1 "bool" (.d (.bl b)) st = .ok (.d (.bl true)) st := by simp [isi1, tyOf, isiOne]
end Py

namespace Py
open PySem L2
theorem lookA_put {α : Type} (k n : Str) (v : α) : ∀ (kvs : List (Str × α)), lookA n (putA kvs k v) = if k = n then some v else lookA n kvs := by
  intro kvs
  have hmap : ∀ l : List (Str × α), (l.any fun kv => decide (kv.1 = k)) = true → lookA n (l.map (fun kv => if kv.1 = k then (kv.1, v) else kv)) = if k = n then some v else lookA n l := by
    intro l
    induction l with
    | nil => intro h; cases h
    | cons p l ih =>
      intro h
      rw [List.map_cons]
      by_cases hk : p.1 = k
      · rw [if_pos hk]
        show (if p.1 = n then some v else _) = _
        by_cases hn : k = n
        · rw [if_pos (hk.trans hn), if_pos hn]
        · rw [if_neg (fun e => hn (hk.symm.trans e)), if_neg hn]
          show _ = (if p.1 = n then some p.2 else lookA n l)
          rw [if_neg (fun e => hn (hk.symm.trans e))]
          by_cases hl : (l.any fun kv => decide (kv.1 = k)) = true
          · rw [ih hl, if_neg hn]
          · have : l.map (fun kv => if kv.1 = k then (kv.1, v) else kv) = l := by
              refine (List.map_congr_left fun q hq => ?_).trans (List.map_id l)
              show (if q.1 = k then (q.1, v) else q) = q
              rw [if_neg]
              intro e
              exact hl (List.any_eq_true.mpr ⟨q, hq, by simpa using e⟩)
            rw [this]
      · rw [if_neg hk]
        rw [List.any_cons] at h
        have hd : decide (p.1 = k) = false := decide_eq_false hk
        rw [hd, Bool.false_or] at h
        show (if p.1 = n then some p.2 else _) = (if k = n then some v else if p.1 = n then some p.2 else lookA n l)
        rw [ih h]
        by_cases hn : p.1 = n
        · rw [if_pos hn, if_pos hn, if_neg (fun e => hk (hn.trans e.symm))]
        · rw [if_neg hn, if_neg hn]
  unfold putA
  split
  · rename_i h; exact hmap kvs h
  · rename_i h
    have app : ∀ l : List (Str × α), (¬ (l.any fun kv => decide (kv.1 = k)) = true) → lookA n (l ++ [(k, v)]) = if k = n then some v else lookA n l := by
      intro l
      induction l with
      | nil =>
        intro _
        show (if k = n then some v else none) = _
        rfl
      | cons p l ih =>
        intro h
        rw [List.any_cons, Bool.or_eq_true, not_or] at h
        have hk : p.1 ≠ k := fun e => h.1 (decide_eq_true e)
        show (if p.1 = n then some p.2 else lookA n (l ++ [(k, v)])) = (if k = n then some v else if p.1 = n then some p.2 else lookA n l)
        rw [ih h.2]
        by_cases hn : p.1 = n
        · rw [if_pos hn, if_pos hn, if_neg (fun e => hk (hn.trans e.symm))]
        · rw [if_neg hn, if_neg hn]
    exact app kvs h
end Py

namespace Py
open PySem L2
/-! ### a list that is told to be a trail -/
theorem eqvKK : ∀ (a b : List (List Kd)), eqvL (encKK a) (encKK b) = decide (a = b)
  | [], [] => rfl
  | [], _ :: _ => rfl
  | _ :: _, [] => rfl
  | a :: as, b :: bs => by
    show (eqvL (encK a) (encK b) && eqvL (encKK as) (encKK bs)) = _
    rw [eqvKK as bs, eqvK2]
    by_cases h1 : a = b <;> by_cases h2 : as = bs <;> simp [h1, h2]
theorem fineKK : ∀ (l : List (List Kd)), fineL (encKK l) = true
  | [] => rfl
  | a :: l => by
    show (fineL (encK a) && fineL (encKK l)) = true
    rw [fineK, fineKK l]; rfl
theorem depKK : ∀ (l : List (List Kd)), depL (encKK l) ≤ 1
  | [] => by show 0 ≤ 1; omega
  | a :: l => by
    show max (depL (encK a) + 1) (depL (encKK l)) ≤ 1
    have := depKK l
    rw [depK]; omega
theorem eqD_KK (a b : List (List Kd)) : eqD (.lst (encKK a)) (.lst (encKK b)) = some (decide (a = b)) := by
  have h1 := depKK a
  have h2 := depKK b
  unfold eqD
  simp only [D.fine, fineKK, D.dep, D.eqv, eqvKK]
  rw [if_pos (by simp; omega)]
/-- step by step -/
def stepsK (f : Tl) (L : List (List Kd)) (rs : List Rw) : Prop := ∀ i, (h : i < rs.length) → ∃ a b, L[i]? = some a ∧ L[i + 1]? = some b ∧ nextK f a rs[i] = .ok b
theorem steps_trail {f : Tl} : ∀ {rs : List Rw} {L : List (List Kd)} {ks : List Kd}, L.length = rs.length + 1 → L[0]? = some ks → stepsK f L rs → trailK f ks rs = (L, none)
  | [], L, ks, hl, h0, _ => by
    match L, hl with
    | [x], _ => cases h0; rfl
  | r :: rs, L, ks, hl, h0, hs => by
    match L, hl with
    | x :: L, hl =>
      cases h0
      obtain ⟨a, b, h1, h2, h3⟩ := hs 0 (by simp)
      cases h1
      have hb : L[0]? = some b := h2
      have ih := steps_trail (f := f) (rs := rs) (L := L) (ks := b) (by simpa using hl) hb (fun i hi => by
        obtain ⟨a', b', g1, g2, g3⟩ := hs (i + 1) (by simp; omega)
        exact ⟨a', b', by simpa using g1, by simpa using g2, by simpa using g3⟩)
      have h3' : nextK f ks r = .ok b := h3
      simp only [trailK, h3', ih]
theorem trail_steps {f : Tl} : ∀ {rs : List Rw} {ks : List Kd}, (trailK f ks rs).2 = none → (trailK f ks rs).1.length = rs.length + 1 ∧ (trailK f ks rs).1[0]? = some ks ∧ stepsK f (trailK f ks rs).1 rs
  | [], ks, _ => ⟨rfl, rfl, fun i h => absurd h (Nat.not_lt_zero _)⟩
  | r :: rs, ks, h => by
    simp only [trailK] at h ⊢
    cases q : nextK f ks r with
    | error e => rw [q] at h; cases h
    | ok k' =>
      rw [q] at h
      obtain ⟨h1, h2, h3⟩ := trail_steps h
      refine ⟨by simp [h1], rfl, fun i hi => ?_⟩
      cases i with
      | zero => exact ⟨ks, k', rfl, by simpa using h2, q⟩
      | succ i =>
        obtain ⟨a, b, g1, g2, g3⟩ := h3 i (by simpa using hi)
        exact ⟨a, b, by simpa using g1, by simpa using g2, by simpa using g3⟩
def HoldsK (f : Tl) (b : Blk) (L : List (List Kd)) : Prop := L.length = b.rows.length + 1 ∧ L[0]? = some b.ins ∧ L.getLast? = some b.outs ∧ stepsK f L b.rows
theorem holdsK_iff {f : Tl} {b : Blk} {L : List (List Kd)} : HoldsK f b L ↔ (wayK f b).2 = "" ∧ L = (wayK f b).1 := by
  constructor
  · rintro ⟨h1, h2, h3, h4⟩
    have ht := steps_trail h1 h2 h4
    unfold wayK endsK
    rw [ht]
    exact ⟨by simp only [h3, if_true], rfl⟩
  · rintro ⟨h1, h2⟩
    unfold wayK endsK at h1
    cases q : (trailK f b.ins b.rows).2 with
    | some e => simp only [q] at h1; exact absurd h1 (excS_nn e)
    | none =>
      simp only [q] at h1
      obtain ⟨g1, g2, g3⟩ := trail_steps q
      have hL : L = (trailK f b.ins b.rows).1 := h2
      subst hL
      refine ⟨g1, g2, ?_, g3⟩
      by_cases hl : (trailK f b.ins b.rows).1.getLast? = some b.outs
      · exact hl
      · rw [if_neg hl] at h1; exact absurd h1 (by decide)
/-- a step that does not hold -/
def badStep (f : Tl) (L : List (List Kd)) (rs : List Rw) (i : Nat) : Bool := match L[i]?, L[i + 1]?, rs[i]? with
  | some a, some b, some r => (match nextK f a r with
    | .ok k => !(decide (k = b))
    | .error _ => true)
  | _, _, _ => false
noncomputable abbrev hldB : MS := (tryM (ifM (tvM (binM (eqW true) (callF s_p_behind (consA (varM 0) (consA (binM ixW (varM 2) (varM 6)) (consA (binM ixW (varM 5) (varM 6)) nilA)))) (binM ixW (varM 2) (binM (addW false) (varM 6) (conM (.int 1))))))
  (retM (conM (.bl false)))
  passS) [([.empty, .kind, .block, .apart, .dry], (retM (conM (.bl false))))])
theorem try_ok {body : MS} {hs : List (List Exc × MS)} {env : Env} {st : Store} {r : RS} (h : body env st = r) (hr : ∀ c e s, r ≠ .err c e s) : tryM body hs env st = r := by
  unfold tryM; rw [h]
  cases r with
  | err c e s => exact absurd rfl (hr c e s)
  | _ => rfl
theorem holds_ok (w : W) (st : Store) (P : Prg) (n : Str) (b : Blk) (L : List (List Kd)) (hw : asD st w = some (.dct (encP P))) (hP : PrgOk P) (hb : lookA n P = some b) (hL : ∀ ks ∈ L, ks.length ≤ 300000) (hLl : L.length ≤ 500000) :
    ∃ r : Bool, (r = true ↔ HoldsK (telP P) b L) ∧ s_p_holds [w, .d (.str n), .d (.lst (encKK L))] st = .ok (.d (.bl r)) st := by
  have hx : w.isExc = false := noExc_of hw
  have hbo : BlkOk b := hP.bl _ (lookA_mem hb)
  have hsr := hbo.sr
  have hlk : look n (encP P) = some (.tup [.tup (encK b.ins), .tup (encK b.outs), .lst (encR b.rows)]) := by rw [lookP, hb]; rfl
  have hlL : ((encKK L).length : Int) = (L.length : Int) := by rw [List.length_map]
  have hlR : ((encR b.rows).length : Int) = (b.rows.length : Int) := by rw [List.length_map]
  let E (x6 : Option W) : Env := [some w, some (.d (.str n)), some (.d (.lst (encKK L))), some (.d (.tup (encK b.ins))), some (.d (.tup (encK b.outs))), some (.d (.lst (encR b.rows))), x6]
  have e0 : asgTM [3, 4, 5] (binM ixW (varM 0) (varM 1)) [some w, some (.d (.str n)), some (.d (.lst (encKK L))), none, none, none, none] st = .nx (E none) st := by
    simp only [szs, fnM, rawM, seqM, ifM, tvM, truM, binM, unM, appM, consA, nilA, varM, conM, retM, retN, asgM, expM, raiseM, passS, callF, app1, app2, noExc, isExc_d, isExc_c, bindS_ok, bindS_err, bindS_stuck, Res.bind_ok, Res.bind_err, Res.bind_stuck, onBl_bl, andT, orT, notT, andV, orV, notV, tupM, lstM, toDs, toD, asD_d, asD_new, frzW_d, newT, newL, slM, slW, someO, noneO, ixW, addW, subW, mulW, modW, cmpW, negW, lenW, intW, tabW, isNonB, isNonW, isNon_d, List.map_cons, List.map_nil, List.length_cons, List.length_nil, List.replicate, List.append_nil, List.nil_append, List.cons_append, List.getElem?_cons_zero, List.getElem?_cons_succ, List.set_cons_zero, List.set_cons_succ, Nat.reduceAdd, Nat.reduceSub, if_true, if_false, ite_true, ite_false, Bool.not_true, Bool.not_false, Bool.and_true, Bool.and_false, Bool.false_eq_true, reduceIte, fin_same, finE_same, fin_new, atI_0, atI_1, atI_2, eqW_ofs, look_ofs, look_nil, dspC, newDc, inW, Option.isSome_some, Option.isSome_none, itM, forM, items_dl, items_dt, methL, methD, arg0, arg1, arg2, appendW, popW, listW, get_new, set_new, isLst_new, pow109, String.reduceBEq, String.reduceEq, Bool.false_or, Bool.true_or, Bool.or_false, Bool.or_true, E, asgTM, hw, hlk, sets]
  unfold s_p_holds b_p_holds
  by_cases h1 : L.length = b.rows.length + 1
  · have h1b : ((L.length : Int) == (b.rows.length : Int) + 1) = true := by rw [beq_iff_eq]; omega
    obtain ⟨k0, L', hL0⟩ : ∃ k0 L', L = k0 :: L' := by
      cases L with
      | nil => cases h1
      | cons a l => exact ⟨a, l, rfl⟩
    obtain ⟨l, kz, hLz⟩ : ∃ l kz, L = l ++ [kz] := ⟨L.dropLast, L.getLast (by rw [hL0]; simp), (List.dropLast_concat_getLast (by rw [hL0]; simp)).symm⟩
    have a0 : atI (encKK L) 0 = some (.tup (encK k0)) := by rw [hL0]; exact atI_0 _ _
    have az : atI (encKK L) (-1) = some (.tup (encK kz)) := by rw [hLz]; exact last_KK l kz
    by_cases h2 : k0 = b.ins
    · by_cases h3 : kz = b.outs
      · -- all steps
        have hL2 := loop_any (t := .name 6) (body := hldB) (st := st) (w := .d (.bl false)) (fun env => ∃ x, env = E x) (fun x => match x with | .int i => badStep (telP P) L b.rows i.toNat | _ => false) (uptoD b.rows.length) (E none) (fun x hxm env ⟨y, he⟩ => by
          obtain ⟨i, hi, rfl⟩ := mem_upto hxm
          subst he
          refine ⟨E (some (.d (.int i))), rfl, ?_⟩
          have hiL : i < L.length := by omega
          have hiL1 : i + 1 < L.length := by omega
          have b1 : atI (encKK L) (i : Int) = some (.tup (encK L[i])) := by rw [atI_nat, List.getElem?_map, List.getElem?_eq_getElem hiL]; rfl
          have b2 : atI (encKK L) ((i : Int) + 1) = some (.tup (encK L[i + 1])) := by
            rw [show (i : Int) + 1 = ((i + 1 : Nat) : Int) by omega, atI_nat, List.getElem?_map, List.getElem?_eq_getElem hiL1]; rfl
          have b3 : atI (encR b.rows) (i : Int) = some (b.rows[i]).enc := by rw [atI_nat, List.getElem?_map, List.getElem?_eq_getElem hi]; rfl
          have eb := p_behind_ok w (encP P) (telP P) L[i] b.rows[i] st hw (sees_P P) hP.small (hbo.ro _ (List.getElem_mem hi)) (by have := hL _ (List.getElem_mem hiL); omega)
          show (badStep (telP P) L b.rows (((i : Nat) : Int).toNat) = true ∧ _) ∨ (badStep (telP P) L b.rows (((i : Nat) : Int).toNat) = false ∧ _)
          rw [Int.toNat_natCast]
          unfold badStep
          rw [List.getElem?_eq_getElem hiL, List.getElem?_eq_getElem hiL1, List.getElem?_eq_getElem hi]
          cases q : nextK (telP P) L[i] b.rows[i] with
          | error c =>
            left
            rw [q] at eb
            refine ⟨by simp only [q], ?_⟩
            have e1 : ifM (tvM (binM (eqW true) (callF s_p_behind (consA (varM 0) (consA (binM ixW (varM 2) (varM 6)) (consA (binM ixW (varM 5) (varM 6)) nilA)))) (binM ixW (varM 2) (binM (addW false) (varM 6) (conM (.int 1)))))) (retM (conM (.bl false))) passS (E (some (.d (.int i)))) st = .err c (E (some (.d (.int i)))) st := by
              simp only [szs, fnM, rawM, seqM, ifM, tvM, truM, binM, unM, appM, consA, nilA, varM, conM, retM, retN, asgM, expM, raiseM, passS, callF, app1, app2, noExc, isExc_d, isExc_c, bindS_ok, bindS_err, bindS_stuck, Res.bind_ok, Res.bind_err, Res.bind_stuck, onBl_bl, andT, orT, notT, andV, orV, notV, tupM, lstM, toDs, toD, asD_d, asD_new, frzW_d, newT, newL, slM, slW, someO, noneO, ixW, addW, subW, mulW, modW, cmpW, negW, lenW, intW, tabW, isNonB, isNonW, isNon_d, List.map_cons, List.map_nil, List.length_cons, List.length_nil, List.replicate, List.append_nil, List.nil_append, List.cons_append, List.getElem?_cons_zero, List.getElem?_cons_succ, List.set_cons_zero, List.set_cons_succ, Nat.reduceAdd, Nat.reduceSub, if_true, if_false, ite_true, ite_false, Bool.not_true, Bool.not_false, Bool.and_true, Bool.and_false, Bool.false_eq_true, reduceIte, fin_same, finE_same, fin_new, atI_0, atI_1, atI_2, eqW_ofs, look_ofs, look_nil, dspC, newDc, inW, Option.isSome_some, Option.isSome_none, itM, forM, items_dl, items_dt, methL, methD, arg0, arg1, arg2, appendW, popW, listW, get_new, set_new, isLst_new, pow109, String.reduceBEq, String.reduceEq, Bool.false_or, Bool.true_or, Bool.or_false, Bool.or_true, E, b1, b3, hx, eb]
            show tryM _ _ _ _ = _
            unfold tryM
            rw [e1]
            have hc : c ∈ [Exc.empty, .kind, .block, .apart, .dry] := by cases c <;> simp
            simp only [handle, if_pos hc]
            simp only [szs, fnM, rawM, seqM, ifM, tvM, truM, binM, unM, appM, consA, nilA, varM, conM, retM, retN, asgM, expM, raiseM, passS, callF, app1, app2, noExc, isExc_d, isExc_c, bindS_ok, bindS_err, bindS_stuck, Res.bind_ok, Res.bind_err, Res.bind_stuck, onBl_bl, andT, orT, notT, andV, orV, notV, tupM, lstM, toDs, toD, asD_d, asD_new, frzW_d, newT, newL, slM, slW, someO, noneO, ixW, addW, subW, mulW, modW, cmpW, negW, lenW, intW, tabW, isNonB, isNonW, isNon_d, List.map_cons, List.map_nil, List.length_cons, List.length_nil, List.replicate, List.append_nil, List.nil_append, List.cons_append, List.getElem?_cons_zero, List.getElem?_cons_succ, List.set_cons_zero, List.set_cons_succ, Nat.reduceAdd, Nat.reduceSub, if_true, if_false, ite_true, ite_false, Bool.not_true, Bool.not_false, Bool.and_true, Bool.and_false, Bool.false_eq_true, reduceIte, fin_same, finE_same, fin_new, atI_0, atI_1, atI_2, eqW_ofs, look_ofs, look_nil, dspC, newDc, inW, Option.isSome_some, Option.isSome_none, itM, forM, items_dl, items_dt, methL, methD, arg0, arg1, arg2, appendW, popW, listW, get_new, set_new, isLst_new, pow109, String.reduceBEq, String.reduceEq, Bool.false_or, Bool.true_or, Bool.or_false, Bool.or_true, noErrS]
          | ok k =>
            rw [q] at eb
            have b2' : binM ixW (varM 2) (binM (addW false) (varM 6) (conM (.int 1))) (E (some (.d (.int i)))) st = .ok (.d (.tup (encK L[i + 1]))) st := by simp only [szs, fnM, rawM, seqM, ifM, tvM, truM, binM, unM, appM, consA, nilA, varM, conM, retM, retN, asgM, expM, raiseM, passS, callF, app1, app2, noExc, isExc_d, isExc_c, bindS_ok, bindS_err, bindS_stuck, Res.bind_ok, Res.bind_err, Res.bind_stuck, onBl_bl, andT, orT, notT, andV, orV, notV, tupM, lstM, toDs, toD, asD_d, asD_new, frzW_d, newT, newL, slM, slW, someO, noneO, ixW, addW, subW, mulW, modW, cmpW, negW, lenW, intW, tabW, isNonB, isNonW, isNon_d, List.map_cons, List.map_nil, List.length_cons, List.length_nil, List.replicate, List.append_nil, List.nil_append, List.cons_append, List.getElem?_cons_zero, List.getElem?_cons_succ, List.set_cons_zero, List.set_cons_succ, Nat.reduceAdd, Nat.reduceSub, if_true, if_false, ite_true, ite_false, Bool.not_true, Bool.not_false, Bool.and_true, Bool.and_false, Bool.false_eq_true, reduceIte, fin_same, finE_same, fin_new, atI_0, atI_1, atI_2, eqW_ofs, look_ofs, look_nil, dspC, newDc, inW, Option.isSome_some, Option.isSome_none, itM, forM, items_dl, items_dt, methL, methD, arg0, arg1, arg2, appendW, popW, listW, get_new, set_new, isLst_new, pow109, String.reduceBEq, String.reduceEq, Bool.false_or, Bool.true_or, Bool.or_false, Bool.or_true, E, b2]
            have b4 : callF s_p_behind (consA (varM 0) (consA (binM ixW (varM 2) (varM 6)) (consA (binM ixW (varM 5) (varM 6)) nilA))) (E (some (.d (.int i)))) st = .ok (.d (.tup (encK k))) st := by simp only [szs, fnM, rawM, seqM, ifM, tvM, truM, binM, unM, appM, consA, nilA, varM, conM, retM, retN, asgM, expM, raiseM, passS, callF, app1, app2, noExc, isExc_d, isExc_c, bindS_ok, bindS_err, bindS_stuck, Res.bind_ok, Res.bind_err, Res.bind_stuck, onBl_bl, andT, orT, notT, andV, orV, notV, tupM, lstM, toDs, toD, asD_d, asD_new, frzW_d, newT, newL, slM, slW, someO, noneO, ixW, addW, subW, mulW, modW, cmpW, negW, lenW, intW, tabW, isNonB, isNonW, isNon_d, List.map_cons, List.map_nil, List.length_cons, List.length_nil, List.replicate, List.append_nil, List.nil_append, List.cons_append, List.getElem?_cons_zero, List.getElem?_cons_succ, List.set_cons_zero, List.set_cons_succ, Nat.reduceAdd, Nat.reduceSub, if_true, if_false, ite_true, ite_false, Bool.not_true, Bool.not_false, Bool.and_true, Bool.and_false, Bool.false_eq_true, reduceIte, fin_same, finE_same, fin_new, atI_0, atI_1, atI_2, eqW_ofs, look_ofs, look_nil, dspC, newDc, inW, Option.isSome_some, Option.isSome_none, itM, forM, items_dl, items_dt, methL, methD, arg0, arg1, arg2, appendW, popW, listW, get_new, set_new, isLst_new, pow109, String.reduceBEq, String.reduceEq, Bool.false_or, Bool.true_or, Bool.or_false, Bool.or_true, E, b1, b3, hx, eb]
            by_cases hk : k = L[i + 1]
            · right
              refine ⟨by simp [q, hk], E (some (.d (.int i))), ?_, _, rfl⟩
              refine try_ok (if_f (s := st) ?_) (fun c e s h => by cases h)
              unfold tvM
              rw [bin_ok b4 b2', eqW_K, decide_eq_true hk]
              rfl
            · left
              refine ⟨by simp [q, hk], ?_⟩
              refine try_ok ((if_t (s := st) ?_).trans (by simp only [szs, fnM, rawM, seqM, ifM, tvM, truM, binM, unM, appM, consA, nilA, varM, conM, retM, retN, asgM, expM, raiseM, passS, callF, app1, app2, noExc, isExc_d, isExc_c, bindS_ok, bindS_err, bindS_stuck, Res.bind_ok, Res.bind_err, Res.bind_stuck, onBl_bl, andT, orT, notT, andV, orV, notV, tupM, lstM, toDs, toD, asD_d, asD_new, frzW_d, newT, newL, slM, slW, someO, noneO, ixW, addW, subW, mulW, modW, cmpW, negW, lenW, intW, tabW, isNonB, isNonW, isNon_d, List.map_cons, List.map_nil, List.length_cons, List.length_nil, List.replicate, List.append_nil, List.nil_append, List.cons_append, List.getElem?_cons_zero, List.getElem?_cons_succ, List.set_cons_zero, List.set_cons_succ, Nat.reduceAdd, Nat.reduceSub, if_true, if_false, ite_true, ite_false, Bool.not_true, Bool.not_false, Bool.and_true, Bool.and_false, Bool.false_eq_true, reduceIte, fin_same, finE_same, fin_new, atI_0, atI_1, atI_2, eqW_ofs, look_ofs, look_nil, dspC, newDc, inW, Option.isSome_some, Option.isSome_none, itM, forM, items_dl, items_dt, methL, methD, arg0, arg1, arg2, appendW, popW, listW, get_new, set_new, isLst_new, pow109, String.reduceBEq, String.reduceEq, Bool.false_or, Bool.true_or, Bool.or_false, Bool.or_true])) (fun c e s h => by cases h)
              unfold tvM
              rw [bin_ok b4 b2', eqW_K, decide_eq_false hk]
              rfl) ⟨none, rfl⟩
        have e1 : ∀ rest : MS, seqM (ifM (orT (tvM (binM (eqW true) (appM (app1 lenW) (consA (varM 2) nilA)) (binM (addW false) (appM (app1 lenW) (consA (varM 5) nilA)) (conM (.int 1))))) (orT (tvM (binM (eqW true) (binM ixW (varM 2) (conM (.int 0))) (varM 3))) (tvM (binM (eqW true) (binM ixW (varM 2) (unM negW (conM (.int 1)))) (varM 4))))) (retM (conM (.bl false))) passS) rest (E none) st = rest (E none) st := fun rest => seq_nx (by
            simp only [szs, fnM, rawM, seqM, ifM, tvM, truM, binM, unM, appM, consA, nilA, varM, conM, retM, retN, asgM, expM, raiseM, passS, callF, app1, app2, noExc, isExc_d, isExc_c, bindS_ok, bindS_err, bindS_stuck, Res.bind_ok, Res.bind_err, Res.bind_stuck, onBl_bl, andT, orT, notT, andV, orV, notV, tupM, lstM, toDs, toD, asD_d, asD_new, frzW_d, newT, newL, slM, slW, someO, noneO, ixW, addW, subW, mulW, modW, cmpW, negW, lenW, intW, tabW, isNonB, isNonW, isNon_d, List.map_cons, List.map_nil, List.length_cons, List.length_nil, List.replicate, List.append_nil, List.nil_append, List.cons_append, List.getElem?_cons_zero, List.getElem?_cons_succ, List.set_cons_zero, List.set_cons_succ, Nat.reduceAdd, Nat.reduceSub, if_true, if_false, ite_true, ite_false, Bool.not_true, Bool.not_false, Bool.and_true, Bool.and_false, Bool.false_eq_true, reduceIte, fin_same, finE_same, fin_new, atI_0, atI_1, atI_2, eqW_ofs, look_ofs, look_nil, dspC, newDc, inW, Option.isSome_some, Option.isSome_none, itM, forM, items_dl, items_dt, methL, methD, arg0, arg1, arg2, appendW, popW, listW, get_new, set_new, isLst_new, pow109, String.reduceBEq, String.reduceEq, Bool.false_or, Bool.true_or, Bool.or_false, Bool.or_true, E, hlL, hlR, eqW_int, h1b, a0, eqW_K, h2, decide_true, Int.reduceNeg, az, h3])
        have hany : (uptoD b.rows.length).any (fun x => match x with | .int i => badStep (telP P) L b.rows i.toNat | _ => false) = (List.range b.rows.length).any (badStep (telP P) L b.rows) := by
          rw [any_upto]; rfl
        rw [hany] at hL2
        have hstep : (List.range b.rows.length).any (badStep (telP P) L b.rows) = false ↔ stepsK (telP P) L b.rows := by
          rw [List.any_eq_false]
          constructor
          · intro h i hi
            have := h i (List.mem_range.mpr hi)
            unfold badStep at this
            rw [List.getElem?_eq_getElem (show i < L.length by omega), List.getElem?_eq_getElem (show i + 1 < L.length by omega), List.getElem?_eq_getElem hi] at this
            refine ⟨L[i], L[i + 1], List.getElem?_eq_getElem _, List.getElem?_eq_getElem _, ?_⟩
            cases q : nextK (telP P) L[i] b.rows[i] with
            | error e => simp [q] at this
            | ok k => simp [q] at this; rw [this]
          · intro h i hi
            have hi' := List.mem_range.mp hi
            obtain ⟨a, c, g1, g2, g3⟩ := h i hi'
            unfold badStep
            rw [g1, g2, List.getElem?_eq_getElem hi']
            simp [g3]
        have hH : HoldsK (telP P) b L ↔ stepsK (telP P) L b.rows := ⟨fun h => h.2.2.2, fun h => ⟨h1, by rw [hL0, h2]; rfl, by rw [hLz, h3]; simp, h⟩⟩
        rcases hL2 with ⟨g1, g2⟩ | ⟨g1, env', g2, _⟩
        · refine ⟨false, ⟨fun h => (by cases h), fun h => ?_⟩, (fnM_ret rfl ?_).trans (fin_same _ _)⟩
          · rw [hstep.mpr (hH.mp h)] at g1; cases g1
          · refine (seq_nx e0).trans ((e1 _).trans (seq_ret ?_))
            unfold forM
            rw [rng_ok _ _ st st b.rows.length (by simp only [szs, fnM, rawM, seqM, ifM, tvM, truM, binM, unM, appM, consA, nilA, varM, conM, retM, retN, asgM, expM, raiseM, passS, callF, app1, app2, noExc, isExc_d, isExc_c, bindS_ok, bindS_err, bindS_stuck, Res.bind_ok, Res.bind_err, Res.bind_stuck, onBl_bl, andT, orT, notT, andV, orV, notV, tupM, lstM, toDs, toD, asD_d, asD_new, frzW_d, newT, newL, slM, slW, someO, noneO, ixW, addW, subW, mulW, modW, cmpW, negW, lenW, intW, tabW, isNonB, isNonW, isNon_d, List.map_cons, List.map_nil, List.length_cons, List.length_nil, List.replicate, List.append_nil, List.nil_append, List.cons_append, List.getElem?_cons_zero, List.getElem?_cons_succ, List.set_cons_zero, List.set_cons_succ, Nat.reduceAdd, Nat.reduceSub, if_true, if_false, ite_true, ite_false, Bool.not_true, Bool.not_false, Bool.and_true, Bool.and_false, Bool.false_eq_true, reduceIte, fin_same, finE_same, fin_new, atI_0, atI_1, atI_2, eqW_ofs, look_ofs, look_nil, dspC, newDc, inW, Option.isSome_some, Option.isSome_none, itM, forM, items_dl, items_dt, methL, methD, arg0, arg1, arg2, appendW, popW, listW, get_new, set_new, isLst_new, pow109, String.reduceBEq, String.reduceEq, Bool.false_or, Bool.true_or, Bool.or_false, Bool.or_true, E, hlR]) (by omega)]
            exact g2
        · refine ⟨true, ⟨fun _ => hH.mpr (hstep.mp g1), fun _ => rfl⟩, (fnM_ret rfl ?_).trans (fin_same _ _)⟩
          refine (seq_nx e0).trans ((e1 _).trans ((seq_nx (s := st) (e := env') ?_).trans (by simp only [szs, fnM, rawM, seqM, ifM, tvM, truM, binM, unM, appM, consA, nilA, varM, conM, retM, retN, asgM, expM, raiseM, passS, callF, app1, app2, noExc, isExc_d, isExc_c, bindS_ok, bindS_err, bindS_stuck, Res.bind_ok, Res.bind_err, Res.bind_stuck, onBl_bl, andT, orT, notT, andV, orV, notV, tupM, lstM, toDs, toD, asD_d, asD_new, frzW_d, newT, newL, slM, slW, someO, noneO, ixW, addW, subW, mulW, modW, cmpW, negW, lenW, intW, tabW, isNonB, isNonW, isNon_d, List.map_cons, List.map_nil, List.length_cons, List.length_nil, List.replicate, List.append_nil, List.nil_append, List.cons_append, List.getElem?_cons_zero, List.getElem?_cons_succ, List.set_cons_zero, List.set_cons_succ, Nat.reduceAdd, Nat.reduceSub, if_true, if_false, ite_true, ite_false, Bool.not_true, Bool.not_false, Bool.and_true, Bool.and_false, Bool.false_eq_true, reduceIte, fin_same, finE_same, fin_new, atI_0, atI_1, atI_2, eqW_ofs, look_ofs, look_nil, dspC, newDc, inW, Option.isSome_some, Option.isSome_none, itM, forM, items_dl, items_dt, methL, methD, arg0, arg1, arg2, appendW, popW, listW, get_new, set_new, isLst_new, pow109, String.reduceBEq, String.reduceEq, Bool.false_or, Bool.true_or, Bool.or_false, Bool.or_true])))
          unfold forM
          rw [rng_ok _ _ st st b.rows.length (by simp only [szs, fnM, rawM, seqM, ifM, tvM, truM, binM, unM, appM, consA, nilA, varM, conM, retM, retN, asgM, expM, raiseM, passS, callF, app1, app2, noExc, isExc_d, isExc_c, bindS_ok, bindS_err, bindS_stuck, Res.bind_ok, Res.bind_err, Res.bind_stuck, onBl_bl, andT, orT, notT, andV, orV, notV, tupM, lstM, toDs, toD, asD_d, asD_new, frzW_d, newT, newL, slM, slW, someO, noneO, ixW, addW, subW, mulW, modW, cmpW, negW, lenW, intW, tabW, isNonB, isNonW, isNon_d, List.map_cons, List.map_nil, List.length_cons, List.length_nil, List.replicate, List.append_nil, List.nil_append, List.cons_append, List.getElem?_cons_zero, List.getElem?_cons_succ, List.set_cons_zero, List.set_cons_succ, Nat.reduceAdd, Nat.reduceSub, if_true, if_false, ite_true, ite_false, Bool.not_true, Bool.not_false, Bool.and_true, Bool.and_false, Bool.false_eq_true, reduceIte, fin_same, finE_same, fin_new, atI_0, atI_1, atI_2, eqW_ofs, look_ofs, look_nil, dspC, newDc, inW, Option.isSome_some, Option.isSome_none, itM, forM, items_dl, items_dt, methL, methD, arg0, arg1, arg2, appendW, popW, listW, get_new, set_new, isLst_new, pow109, String.reduceBEq, String.reduceEq, Bool.false_or, Bool.true_or, Bool.or_false, Bool.or_true, E, hlR]) (by omega)]
          exact g2
      · refine ⟨false, ⟨fun h => (by cases h), fun h => ?_⟩, (fnM_ret rfl ?_).trans (fin_same _ _)⟩
        · have := h.2.2.1; rw [hLz] at this; simp at this; exact absurd this h3
        · refine (seq_nx e0).trans (seq_ret ?_)
          simp only [szs, fnM, rawM, seqM, ifM, tvM, truM, binM, unM, appM, consA, nilA, varM, conM, retM, retN, asgM, expM, raiseM, passS, callF, app1, app2, noExc, isExc_d, isExc_c, bindS_ok, bindS_err, bindS_stuck, Res.bind_ok, Res.bind_err, Res.bind_stuck, onBl_bl, andT, orT, notT, andV, orV, notV, tupM, lstM, toDs, toD, asD_d, asD_new, frzW_d, newT, newL, slM, slW, someO, noneO, ixW, addW, subW, mulW, modW, cmpW, negW, lenW, intW, tabW, isNonB, isNonW, isNon_d, List.map_cons, List.map_nil, List.length_cons, List.length_nil, List.replicate, List.append_nil, List.nil_append, List.cons_append, List.getElem?_cons_zero, List.getElem?_cons_succ, List.set_cons_zero, List.set_cons_succ, Nat.reduceAdd, Nat.reduceSub, if_true, if_false, ite_true, ite_false, Bool.not_true, Bool.not_false, Bool.and_true, Bool.and_false, Bool.false_eq_true, reduceIte, fin_same, finE_same, fin_new, atI_0, atI_1, atI_2, eqW_ofs, look_ofs, look_nil, dspC, newDc, inW, Option.isSome_some, Option.isSome_none, itM, forM, items_dl, items_dt, methL, methD, arg0, arg1, arg2, appendW, popW, listW, get_new, set_new, isLst_new, pow109, String.reduceBEq, String.reduceEq, Bool.false_or, Bool.true_or, Bool.or_false, Bool.or_true, E, hlL, hlR, eqW_int, h1b, a0, eqW_K, h2, decide_true, Int.reduceNeg, az, h3, decide_false]
    · refine ⟨false, ⟨fun h => (by cases h), fun h => ?_⟩, (fnM_ret rfl ?_).trans (fin_same _ _)⟩
      · have := h.2.1; rw [hL0] at this; simp at this; exact absurd this h2
      · refine (seq_nx e0).trans (seq_ret ?_)
        simp only [szs, fnM, rawM, seqM, ifM, tvM, truM, binM, unM, appM, consA, nilA, varM, conM, retM, retN, asgM, expM, raiseM, passS, callF, app1, app2, noExc, isExc_d, isExc_c, bindS_ok, bindS_err, bindS_stuck, Res.bind_ok, Res.bind_err, Res.bind_stuck, onBl_bl, andT, orT, notT, andV, orV, notV, tupM, lstM, toDs, toD, asD_d, asD_new, frzW_d, newT, newL, slM, slW, someO, noneO, ixW, addW, subW, mulW, modW, cmpW, negW, lenW, intW, tabW, isNonB, isNonW, isNon_d, List.map_cons, List.map_nil, List.length_cons, List.length_nil, List.replicate, List.append_nil, List.nil_append, List.cons_append, List.getElem?_cons_zero, List.getElem?_cons_succ, List.set_cons_zero, List.set_cons_succ, Nat.reduceAdd, Nat.reduceSub, if_true, if_false, ite_true, ite_false, Bool.not_true, Bool.not_false, Bool.and_true, Bool.and_false, Bool.false_eq_true, reduceIte, fin_same, finE_same, fin_new, atI_0, atI_1, atI_2, eqW_ofs, look_ofs, look_nil, dspC, newDc, inW, Option.isSome_some, Option.isSome_none, itM, forM, items_dl, items_dt, methL, methD, arg0, arg1, arg2, appendW, popW, listW, get_new, set_new, isLst_new, pow109, String.reduceBEq, String.reduceEq, Bool.false_or, Bool.true_or, Bool.or_false, Bool.or_true, E, hlL, hlR, eqW_int, h1b, a0, eqW_K, h2, decide_false]
  · have h1b : ((L.length : Int) == (b.rows.length : Int) + 1) = false := by
      rw [beq_eq_false_iff_ne]; omega
    refine ⟨false, ⟨fun h => (by cases h), fun h => absurd h.1 h1⟩, (fnM_ret rfl ?_).trans (fin_same _ _)⟩
    refine (seq_nx e0).trans (seq_ret ?_)
    simp only [szs, fnM, rawM, seqM, ifM, tvM, truM, binM, unM, appM, consA, nilA, varM, conM, retM, retN, asgM, expM, raiseM, passS, callF, app1, app2, noExc, isExc_d, isExc_c, bindS_ok, bindS_err, bindS_stuck, Res.bind_ok, Res.bind_err, Res.bind_stuck, onBl_bl, andT, orT, notT, andV, orV, notV, tupM, lstM, toDs, toD, asD_d, asD_new, frzW_d, newT, newL, slM, slW, someO, noneO, ixW, addW, subW, mulW, modW, cmpW, negW, lenW, intW, tabW, isNonB, isNonW, isNon_d, List.map_cons, List.map_nil, List.length_cons, List.length_nil, List.replicate, List.append_nil, List.nil_append, List.cons_append, List.getElem?_cons_zero, List.getElem?_cons_succ, List.set_cons_zero, List.set_cons_succ, Nat.reduceAdd, Nat.reduceSub, if_true, if_false, ite_true, ite_false, Bool.not_true, Bool.not_false, Bool.and_true, Bool.and_false, Bool.false_eq_true, reduceIte, fin_same, finE_same, fin_new, atI_0, atI_1, atI_2, eqW_ofs, look_ofs, look_nil, dspC, newDc, inW, Option.isSome_some, Option.isSome_none, itM, forM, items_dl, items_dt, methL, methD, arg0, arg1, arg2, appendW, popW, listW, get_new, set_new, isLst_new, pow109, String.reduceBEq, String.reduceEq, Bool.false_or, Bool.true_or, Bool.or_false, Bool.or_true, E, hlL, hlR, eqW_int, h1b]
end Py

namespace Py
open PySem L2
theorem fin_own {tl : Store} {j : Nat} {t t' : Int} (hj : j < tl.length + 1) : fin (tc t :: tl) (.c j) (tc t' :: tl) = .ok (.c j) (tc t' :: tl) := by
  unfold fin
  rw [if_pos]
  · simp only [List.length_cons]
    rw [if_pos hj, List.take_of_length_le (by simp)]
  · refine ⟨Nat.le_refl _, fun i fs hi h => ?_⟩
    cases i with
    | zero => cases h
    | succ i => exact h
theorem fin_one {tl : Store} {t t' : Int} {xs : List D} : fin (tc t :: tl) (.c (tl.length + 1)) (tc t' :: (tl ++ [.lst xs])) = .ok (.c (tl.length + 1)) (tc t' :: (tl ++ [.lst xs])) :=
  fin_lst (st := tc t :: tl) (k := 0) (e := [.lst xs]) (j := tl.length + 1) (t := t) (t' := t') (by simp) (by simp) (by simp)
/-- lists of kinds, not too long -/
def Fit (n : Nat) (L : List (List Kd)) : Prop := ∀ ks ∈ L, ks.length ≤ n
theorem Fit.take {n m : Nat} {L : List (List Kd)} (h : Fit n L) : Fit n (L.take m) := fun k hk => h k (List.mem_of_mem_take hk)
theorem Fit.drop {n m : Nat} {L : List (List Kd)} (h : Fit n L) : Fit n (L.drop m) := fun k hk => h k (List.mem_of_mem_drop hk)
theorem Fit.app {n : Nat} {L M : List (List Kd)} (h : Fit n L) (g : Fit n M) : Fit n (L ++ M) := fun k hk => by
  rcases List.mem_append.mp hk with q | q
  · exact h k q
  · exact g k q
theorem Fit.one {n : Nat} {k : List Kd} (h : k.length ≤ n) : Fit n [k] := fun x hx => by rw [List.mem_singleton] at hx; subst hx; exact h
theorem Fit.more {n m : Nat} {L : List (List Kd)} (h : Fit n L) (hm : n ≤ m) : Fit m L := fun k hk => Nat.le_trans (h k hk) hm
theorem forged_ok (ns : List Int) (tl : Store) (j : Nat) (hj : j < tl.length + 1) (L : List (List Kd)) (n : Nat) (hn : n ≤ 250000) (hL : Fit n L) (hL1 : 1 ≤ L.length) (hL2 : L.length ≤ 100000) (hw : ∀ t, asD (tc t :: tl) (.c j) = some (.lst (encKK L))) (t : Int) (h0 : 0 ≤ t) (h1 : t ≤ 900000) :
    ∃ (L' : List (List Kd)) (t' : Int) (j' : Nat) (e : Store), Fit (n + 1) L' ∧ L'.length ≤ L.length + 1 ∧ t ≤ t' ∧ t' ≤ t + 5 ∧ j' < (tl ++ e).length + 1 ∧ (∀ t, asD (tc t :: (tl ++ e)) (.c j') = some (.lst (encKK L'))) ∧
      s_forged [.d (.scr ns), .c 0, .c j] (tc t :: tl) = .ok (.c j') (tc t' :: (tl ++ e)) := by
  obtain ⟨w, w0, w1, ew⟩ := draw0 ns t 9 tl h0 (by omega) (by decide)
  obtain ⟨a, a0, a1, ea⟩ := draw0 ns (t + 1) 1000 tl (by omega) (by omega) (by decide)
  have hlL : ((encKK L).length : Int) = (L.length : Int) := by rw [List.length_map]
  have hlp : (0 : Int) < (L.length : Int) := by omega
  obtain ⟨m0, m1⟩ := mod_in (v := a) hlp
  let pl : Int := a % (L.length : Int)
  obtain ⟨ks, hks, eks⟩ := atI_in (fun ks : List Kd => D.tup (encK ks)) L pl m0 m1
  have hkl := hL ks hks
  let E (x6 x7 : Option W) : Env := [some (.d (.scr ns)), some (.c 0), some (.c j), some (.d (.int w)), some (.d (.int pl)), some (.d (.tup (encK ks))), x6, x7]
  have pre : ∀ rest : MS, seqM (asgM 3 (callF s_draw (consA (varM 0) (consA (varM 1) (consA (conM (.int 9)) nilA)))))
      (seqM (asgM 4 (binM modW (callF s_draw (consA (varM 0) (consA (varM 1) (consA (conM (.int 1000)) nilA)))) (appM (app1 lenW) (consA (varM 2) nilA))))
      (seqM (asgM 5 (binM ixW (varM 2) (varM 4))) rest)) [some (.d (.scr ns)), some (.c 0), some (.c j), none, none, none, none, none] (tc t :: tl) = rest (E none none) (tc (t + 1 + 1) :: tl) := fun rest => by
    refine (seq_nx (e := [some (.d (.scr ns)), some (.c 0), some (.c j), some (.d (.int w)), none, none, none, none]) (s := tc (t + 1) :: tl) (by simp only [szs, fnM, rawM, seqM, ifM, tvM, truM, binM, unM, appM, consA, nilA, varM, conM, retM, retN, asgM, expM, raiseM, passS, callF, app1, app2, noExc, isExc_d, isExc_c, bindS_ok, bindS_err, bindS_stuck, Res.bind_ok, Res.bind_err, Res.bind_stuck, onBl_bl, andT, orT, notT, andV, orV, notV, tupM, lstM, toDs, toD, asD_d, asD_new, frzW_d, newT, newL, slM, slW, someO, noneO, ixW, addW, subW, mulW, modW, cmpW, negW, lenW, intW, tabW, isNonB, isNonW, isNon_d, List.map_cons, List.map_nil, List.length_cons, List.length_nil, List.replicate, List.append_nil, List.nil_append, List.cons_append, List.getElem?_cons_zero, List.getElem?_cons_succ, List.set_cons_zero, List.set_cons_succ, Nat.reduceAdd, Nat.reduceSub, if_true, if_false, ite_true, ite_false, Bool.not_true, Bool.not_false, Bool.and_true, Bool.and_false, Bool.false_eq_true, reduceIte, fin_same, finE_same, fin_new, atI_0, atI_1, atI_2, eqW_ofs, look_ofs, look_nil, dspC, newDc, inW, Option.isSome_some, Option.isSome_none, itM, forM, items_dl, items_dt, methL, methD, arg0, arg1, arg2, appendW, popW, listW, get_new, set_new, isLst_new, pow109, String.reduceBEq, String.reduceEq, Bool.false_or, Bool.true_or, Bool.or_false, Bool.or_true, ew])).trans ?_
    refine (seq_nx (e := [some (.d (.scr ns)), some (.c 0), some (.c j), some (.d (.int w)), some (.d (.int pl)), none, none, none]) (s := tc (t + 1 + 1) :: tl) (by simp only [szs, fnM, rawM, seqM, ifM, tvM, truM, binM, unM, appM, consA, nilA, varM, conM, retM, retN, asgM, expM, raiseM, passS, callF, app1, app2, noExc, isExc_d, isExc_c, bindS_ok, bindS_err, bindS_stuck, Res.bind_ok, Res.bind_err, Res.bind_stuck, onBl_bl, andT, orT, notT, andV, orV, notV, tupM, lstM, toDs, toD, asD_d, asD_new, frzW_d, newT, newL, slM, slW, someO, noneO, ixW, addW, subW, mulW, modW, cmpW, negW, lenW, intW, tabW, isNonB, isNonW, isNon_d, List.map_cons, List.map_nil, List.length_cons, List.length_nil, List.replicate, List.append_nil, List.nil_append, List.cons_append, List.getElem?_cons_zero, List.getElem?_cons_succ, List.set_cons_zero, List.set_cons_succ, Nat.reduceAdd, Nat.reduceSub, if_true, if_false, ite_true, ite_false, Bool.not_true, Bool.not_false, Bool.and_true, Bool.and_false, Bool.false_eq_true, reduceIte, fin_same, finE_same, fin_new, atI_0, atI_1, atI_2, eqW_ofs, look_ofs, look_nil, dspC, newDc, inW, Option.isSome_some, Option.isSome_none, itM, forM, items_dl, items_dt, methL, methD, arg0, arg1, arg2, appendW, popW, listW, get_new, set_new, isLst_new, pow109, String.reduceBEq, String.reduceEq, Bool.false_or, Bool.true_or, Bool.or_false, Bool.or_true, ea, hw, hlL, hlp]; rfl)).trans ?_
    exact seq_nx (by simp only [szs, fnM, rawM, seqM, ifM, tvM, truM, binM, unM, appM, consA, nilA, varM, conM, retM, retN, asgM, expM, raiseM, passS, callF, app1, app2, noExc, isExc_d, isExc_c, bindS_ok, bindS_err, bindS_stuck, Res.bind_ok, Res.bind_err, Res.bind_stuck, onBl_bl, andT, orT, notT, andV, orV, notV, tupM, lstM, toDs, toD, asD_d, asD_new, frzW_d, newT, newL, slM, slW, someO, noneO, ixW, addW, subW, mulW, modW, cmpW, negW, lenW, intW, tabW, isNonB, isNonW, isNon_d, List.map_cons, List.map_nil, List.length_cons, List.length_nil, List.replicate, List.append_nil, List.nil_append, List.cons_append, List.getElem?_cons_zero, List.getElem?_cons_succ, List.set_cons_zero, List.set_cons_succ, Nat.reduceAdd, Nat.reduceSub, if_true, if_false, ite_true, ite_false, Bool.not_true, Bool.not_false, Bool.and_true, Bool.and_false, Bool.false_eq_true, reduceIte, fin_same, finE_same, fin_new, atI_0, atI_1, atI_2, eqW_ofs, look_ofs, look_nil, dspC, newDc, inW, Option.isSome_some, Option.isSome_none, itM, forM, items_dl, items_dt, methL, methD, arg0, arg1, arg2, appendW, popW, listW, get_new, set_new, isLst_new, pow109, String.reduceBEq, String.reduceEq, Bool.false_or, Bool.true_or, Bool.or_false, Bool.or_true, E, hw, eks])
  have hct : cut (encKK L) none (some pl) = encKK (L.take pl.toNat) := by
    have := cut_to (encKK L) pl.toNat
    rw [Int.toNat_of_nonneg m0] at this
    rw [this]; simp
  have hcf : cut (encKK L) (some pl) none = encKK (L.drop pl.toNat) := by
    have := cut_from (encKK L) pl.toNat
    rw [Int.toNat_of_nonneg m0] at this
    rw [this]; simp
  have hcf1 : cut (encKK L) (some (pl + 1)) none = encKK (L.drop (pl.toNat + 1)) := by
    have := cut_from (encKK L) (pl.toNat + 1)
    rw [show ((pl.toNat + 1 : Nat) : Int) = pl + 1 by omega] at this
    rw [this]; simp
  have hzt : (encKK (L.take pl.toNat)).length ≤ sizeLine := small (by rw [List.length_map, List.length_take]; omega)
  have hzf : (encKK (L.drop pl.toNat)).length ≤ sizeLine := small (by rw [List.length_map, List.length_drop]; omega)
  have hzf1 : (encKK (L.drop (pl.toNat + 1))).length ≤ sizeLine := small (by rw [List.length_map, List.length_drop]; omega)
  have asdN : ∀ (xs : List D) (t : Int), asD (tc t :: (tl ++ [Cell.lst xs])) (.c (tl.length + 1)) = some (.lst xs) := fun xs t => by
    unfold asD; simp
  -- a new list
  have new : ∀ (L' : List (List Kd)) (t' : Int), Fit (n + 1) L' → L'.length ≤ L.length + 1 → t ≤ t' → t' ≤ t + 5 →
      b_forged [some (.d (.scr ns)), some (.c 0), some (.c j), none, none, none, none, none] (tc t :: tl) = .ret (.c (tl.length + 1)) (tc t' :: (tl ++ [.lst (encKK L')])) →
      ∃ (L' : List (List Kd)) (t' : Int) (j' : Nat) (e : Store), Fit (n + 1) L' ∧ L'.length ≤ L.length + 1 ∧ t ≤ t' ∧ t' ≤ t + 5 ∧ j' < (tl ++ e).length + 1 ∧ (∀ t, asD (tc t :: (tl ++ e)) (.c j') = some (.lst (encKK L'))) ∧
      s_forged [.d (.scr ns), .c 0, .c j] (tc t :: tl) = .ok (.c j') (tc t' :: (tl ++ e)) := fun L' t' g1 g2 g3 g4 h =>
    ⟨L', t', tl.length + 1, [.lst (encKK L')], g1, g2, g3, g4, by rw [List.length_append]; simp, asdN _, (fnM_ret rfl h).trans fin_one⟩
  have wne : ∀ x : Int, w ≠ x → (w == x) = false := fun x h => by simpa using h
  -- three parts
  have three : ∀ (mid : List Kd) (d : Nat) (t' : Int) (x6 x7 : Option W) (eM eX : M W), mid.length ≤ n + 1 →
      eM (E x6 x7) (tc (t + 1 + 1) :: tl) = .ok (.d (.tup (encK mid))) (tc t' :: tl) → eX (E x6 x7) (tc t' :: tl) = .ok (.d (.lst (encKK (L.drop d)))) (tc t' :: tl) →
      retM (binM (addW true) (binM (addW false) (slM false (varM 2) noneO (someO (varM 4))) (lstM false (consA eM nilA))) eX) (E x6 x7) (tc (t + 1 + 1) :: tl) = .ret (.c (tl.length + 1)) (tc t' :: (tl ++ [.lst (encKK (L.take pl.toNat ++ [mid] ++ L.drop d))])) := fun mid d t' x6 x7 eM eX hm hM hX => by
    have hz1 : (encKK (L.take pl.toNat) ++ [D.tup (encK mid)]).length ≤ sizeLine := small (by rw [List.length_append, List.length_map, List.length_take, List.length_singleton]; omega)
    have happ : encKK (L.take pl.toNat) ++ [D.tup (encK mid)] ++ encKK (L.drop d) = encKK (L.take pl.toNat ++ [mid] ++ L.drop d) := by simp
    have hz2 : (encKK (L.take pl.toNat ++ [mid] ++ L.drop d)).length ≤ sizeLine := small (by rw [List.length_map, List.length_append, List.length_append, List.length_take, List.length_drop, List.length_singleton]; omega)
    unfold retM
    have e1 : binM (addW false) (slM false (varM 2) noneO (someO (varM 4))) (lstM false (consA eM nilA)) (E x6 x7) (tc (t + 1 + 1) :: tl) = .ok (.d (.lst (encKK (L.take pl.toNat) ++ [D.tup (encK mid)]))) (tc t' :: tl) := by
      rw [bin_ok (x := .d (.lst (encKK (L.take pl.toNat)))) (s1 := tc (t + 1 + 1) :: tl) (by simp only [szs, fnM, rawM, seqM, ifM, tvM, truM, binM, unM, appM, consA, nilA, varM, conM, retM, retN, asgM, expM, raiseM, passS, callF, app1, app2, noExc, isExc_d, isExc_c, bindS_ok, bindS_err, bindS_stuck, Res.bind_ok, Res.bind_err, Res.bind_stuck, onBl_bl, andT, orT, notT, andV, orV, notV, tupM, lstM, toDs, toD, asD_d, asD_new, frzW_d, newT, newL, slM, slW, someO, noneO, ixW, addW, subW, mulW, modW, cmpW, negW, lenW, intW, tabW, isNonB, isNonW, isNon_d, List.map_cons, List.map_nil, List.length_cons, List.length_nil, List.replicate, List.append_nil, List.nil_append, List.cons_append, List.getElem?_cons_zero, List.getElem?_cons_succ, List.set_cons_zero, List.set_cons_succ, Nat.reduceAdd, Nat.reduceSub, if_true, if_false, ite_true, ite_false, Bool.not_true, Bool.not_false, Bool.and_true, Bool.and_false, Bool.false_eq_true, reduceIte, fin_same, finE_same, fin_new, atI_0, atI_1, atI_2, eqW_ofs, look_ofs, look_nil, dspC, newDc, inW, Option.isSome_some, Option.isSome_none, itM, forM, items_dl, items_dt, methL, methD, arg0, arg1, arg2, appendW, popW, listW, get_new, set_new, isLst_new, pow109, String.reduceBEq, String.reduceEq, Bool.false_or, Bool.true_or, Bool.or_false, Bool.or_true, E, hw, hct, hzt]) (y := .d (.lst [.tup (encK mid)])) (s2 := tc t' :: tl) (by
        unfold lstM
        simp only [consA, nilA, hM, Res.bind_ok]
        simp only [szs, fnM, rawM, seqM, ifM, tvM, truM, binM, unM, appM, consA, nilA, varM, conM, retM, retN, asgM, expM, raiseM, passS, callF, app1, app2, noExc, isExc_d, isExc_c, bindS_ok, bindS_err, bindS_stuck, Res.bind_ok, Res.bind_err, Res.bind_stuck, onBl_bl, andT, orT, notT, andV, orV, notV, tupM, lstM, toDs, toD, asD_d, asD_new, frzW_d, newT, newL, slM, slW, someO, noneO, ixW, addW, subW, mulW, modW, cmpW, negW, lenW, intW, tabW, isNonB, isNonW, isNon_d, List.map_cons, List.map_nil, List.length_cons, List.length_nil, List.replicate, List.append_nil, List.nil_append, List.cons_append, List.getElem?_cons_zero, List.getElem?_cons_succ, List.set_cons_zero, List.set_cons_succ, Nat.reduceAdd, Nat.reduceSub, if_true, if_false, ite_true, ite_false, Bool.not_true, Bool.not_false, Bool.and_true, Bool.and_false, Bool.false_eq_true, reduceIte, fin_same, finE_same, fin_new, atI_0, atI_1, atI_2, eqW_ofs, look_ofs, look_nil, dspC, newDc, inW, Option.isSome_some, Option.isSome_none, itM, forM, items_dl, items_dt, methL, methD, arg0, arg1, arg2, appendW, popW, listW, get_new, set_new, isLst_new, pow109, String.reduceBEq, String.reduceEq, Bool.false_or, Bool.true_or, Bool.or_false, Bool.or_true])]
      simp only [addW, asD_d, newL, if_pos hz1, Bool.false_eq_true, if_false]
    rw [bin_ok e1 hX]
    simp only [addW, asD_d, happ, newL, if_pos hz2, if_true, bindS_ok, List.length_cons, List.cons_append]
  by_cases w2 : w = 0
  · subst w2
    refine new [] (t + 1 + 1) (fun k hk => by cases hk) (by simp) (by omega) (by omega) ?_
    unfold b_forged
    refine (pre _).trans (seq_ret ?_)
    simp only [szs, fnM, rawM, seqM, ifM, tvM, truM, binM, unM, appM, consA, nilA, varM, conM, retM, retN, asgM, expM, raiseM, passS, callF, app1, app2, noExc, isExc_d, isExc_c, bindS_ok, bindS_err, bindS_stuck, Res.bind_ok, Res.bind_err, Res.bind_stuck, onBl_bl, andT, orT, notT, andV, orV, notV, tupM, lstM, toDs, toD, asD_d, asD_new, frzW_d, newT, newL, slM, slW, someO, noneO, ixW, addW, subW, mulW, modW, cmpW, negW, lenW, intW, tabW, isNonB, isNonW, isNon_d, List.map_cons, List.map_nil, List.length_cons, List.length_nil, List.replicate, List.append_nil, List.nil_append, List.cons_append, List.getElem?_cons_zero, List.getElem?_cons_succ, List.set_cons_zero, List.set_cons_succ, Nat.reduceAdd, Nat.reduceSub, if_true, if_false, ite_true, ite_false, Bool.not_true, Bool.not_false, Bool.and_true, Bool.and_false, Bool.false_eq_true, reduceIte, fin_same, finE_same, fin_new, atI_0, atI_1, atI_2, eqW_ofs, look_ofs, look_nil, dspC, newDc, inW, Option.isSome_some, Option.isSome_none, itM, forM, items_dl, items_dt, methL, methD, arg0, arg1, arg2, appendW, popW, listW, get_new, set_new, isLst_new, pow109, String.reduceBEq, String.reduceEq, Bool.false_or, Bool.true_or, Bool.or_false, Bool.or_true, E, eqW_int, beq_self_eq_true]
  have s0 : ∀ (X : MS) (rest : MS), seqM (ifM (tvM (binM (eqW false) (varM 3) (conM (.int 0)))) X passS) rest (E none none) (tc (t + 1 + 1) :: tl) = rest (E none none) (tc (t + 1 + 1) :: tl) := fun X rest => seq_nx (by simp only [szs, fnM, rawM, seqM, ifM, tvM, truM, binM, unM, appM, consA, nilA, varM, conM, retM, retN, asgM, expM, raiseM, passS, callF, app1, app2, noExc, isExc_d, isExc_c, bindS_ok, bindS_err, bindS_stuck, Res.bind_ok, Res.bind_err, Res.bind_stuck, onBl_bl, andT, orT, notT, andV, orV, notV, tupM, lstM, toDs, toD, asD_d, asD_new, frzW_d, newT, newL, slM, slW, someO, noneO, ixW, addW, subW, mulW, modW, cmpW, negW, lenW, intW, tabW, isNonB, isNonW, isNon_d, List.map_cons, List.map_nil, List.length_cons, List.length_nil, List.replicate, List.append_nil, List.nil_append, List.cons_append, List.getElem?_cons_zero, List.getElem?_cons_succ, List.set_cons_zero, List.set_cons_succ, Nat.reduceAdd, Nat.reduceSub, if_true, if_false, ite_true, ite_false, Bool.not_true, Bool.not_false, Bool.and_true, Bool.and_false, Bool.false_eq_true, reduceIte, fin_same, finE_same, fin_new, atI_0, atI_1, atI_2, eqW_ofs, look_ofs, look_nil, dspC, newDc, inW, Option.isSome_some, Option.isSome_none, itM, forM, items_dl, items_dt, methL, methD, arg0, arg1, arg2, appendW, popW, listW, get_new, set_new, isLst_new, pow109, String.reduceBEq, String.reduceEq, Bool.false_or, Bool.true_or, Bool.or_false, Bool.or_true, E, eqW_int, wne 0 w2])
  by_cases w3 : w = 1
  · subst w3
    refine new (L.take pl.toNat ++ L.drop (pl.toNat + 1)) (t + 1 + 1) ((hL.take.app hL.drop).more (by omega)) (by rw [List.length_append, List.length_take, List.length_drop]; omega) (by omega) (by omega) ?_
    have happ : encKK (L.take pl.toNat) ++ encKK (L.drop (pl.toNat + 1)) = encKK (L.take pl.toNat ++ L.drop (pl.toNat + 1)) := by simp
    have hz2 : (encKK (L.take pl.toNat ++ L.drop (pl.toNat + 1))).length ≤ sizeLine := small (by rw [List.length_map, List.length_append, List.length_take, List.length_drop]; omega)
    unfold b_forged
    refine (pre _).trans ((s0 _ _).trans (seq_ret ?_))
    simp only [szs, fnM, rawM, seqM, ifM, tvM, truM, binM, unM, appM, consA, nilA, varM, conM, retM, retN, asgM, expM, raiseM, passS, callF, app1, app2, noExc, isExc_d, isExc_c, bindS_ok, bindS_err, bindS_stuck, Res.bind_ok, Res.bind_err, Res.bind_stuck, onBl_bl, andT, orT, notT, andV, orV, notV, tupM, lstM, toDs, toD, asD_d, asD_new, frzW_d, newT, newL, slM, slW, someO, noneO, ixW, addW, subW, mulW, modW, cmpW, negW, lenW, intW, tabW, isNonB, isNonW, isNon_d, List.map_cons, List.map_nil, List.length_cons, List.length_nil, List.replicate, List.append_nil, List.nil_append, List.cons_append, List.getElem?_cons_zero, List.getElem?_cons_succ, List.set_cons_zero, List.set_cons_succ, Nat.reduceAdd, Nat.reduceSub, if_true, if_false, ite_true, ite_false, Bool.not_true, Bool.not_false, Bool.and_true, Bool.and_false, Bool.false_eq_true, reduceIte, fin_same, finE_same, fin_new, atI_0, atI_1, atI_2, eqW_ofs, look_ofs, look_nil, dspC, newDc, inW, Option.isSome_some, Option.isSome_none, itM, forM, items_dl, items_dt, methL, methD, arg0, arg1, arg2, appendW, popW, listW, get_new, set_new, isLst_new, pow109, String.reduceBEq, String.reduceEq, Bool.false_or, Bool.true_or, Bool.or_false, Bool.or_true, E, eqW_int, beq_self_eq_true, hw, hct, hzt, hcf1, hzf1, happ, hz2]
  have s1 : ∀ (X : MS) (rest : MS), seqM (ifM (tvM (binM (eqW false) (varM 3) (conM (.int 1)))) X passS) rest (E none none) (tc (t + 1 + 1) :: tl) = rest (E none none) (tc (t + 1 + 1) :: tl) := fun X rest => seq_nx (by simp only [szs, fnM, rawM, seqM, ifM, tvM, truM, binM, unM, appM, consA, nilA, varM, conM, retM, retN, asgM, expM, raiseM, passS, callF, app1, app2, noExc, isExc_d, isExc_c, bindS_ok, bindS_err, bindS_stuck, Res.bind_ok, Res.bind_err, Res.bind_stuck, onBl_bl, andT, orT, notT, andV, orV, notV, tupM, lstM, toDs, toD, asD_d, asD_new, frzW_d, newT, newL, slM, slW, someO, noneO, ixW, addW, subW, mulW, modW, cmpW, negW, lenW, intW, tabW, isNonB, isNonW, isNon_d, List.map_cons, List.map_nil, List.length_cons, List.length_nil, List.replicate, List.append_nil, List.nil_append, List.cons_append, List.getElem?_cons_zero, List.getElem?_cons_succ, List.set_cons_zero, List.set_cons_succ, Nat.reduceAdd, Nat.reduceSub, if_true, if_false, ite_true, ite_false, Bool.not_true, Bool.not_false, Bool.and_true, Bool.and_false, Bool.false_eq_true, reduceIte, fin_same, finE_same, fin_new, atI_0, atI_1, atI_2, eqW_ofs, look_ofs, look_nil, dspC, newDc, inW, Option.isSome_some, Option.isSome_none, itM, forM, items_dl, items_dt, methL, methD, arg0, arg1, arg2, appendW, popW, listW, get_new, set_new, isLst_new, pow109, String.reduceBEq, String.reduceEq, Bool.false_or, Bool.true_or, Bool.or_false, Bool.or_true, E, eqW_int, wne 1 w3])
  have eX1 : ∀ (t : Int) (x6 x7 : Option W), slM false (varM 2) (someO (binM (addW false) (varM 4) (conM (.int 1)))) noneO (E x6 x7) (tc t :: tl) = .ok (.d (.lst (encKK (L.drop (pl.toNat + 1))))) (tc t :: tl) := fun t x6 x7 => by simp only [szs, fnM, rawM, seqM, ifM, tvM, truM, binM, unM, appM, consA, nilA, varM, conM, retM, retN, asgM, expM, raiseM, passS, callF, app1, app2, noExc, isExc_d, isExc_c, bindS_ok, bindS_err, bindS_stuck, Res.bind_ok, Res.bind_err, Res.bind_stuck, onBl_bl, andT, orT, notT, andV, orV, notV, tupM, lstM, toDs, toD, asD_d, asD_new, frzW_d, newT, newL, slM, slW, someO, noneO, ixW, addW, subW, mulW, modW, cmpW, negW, lenW, intW, tabW, isNonB, isNonW, isNon_d, List.map_cons, List.map_nil, List.length_cons, List.length_nil, List.replicate, List.append_nil, List.nil_append, List.cons_append, List.getElem?_cons_zero, List.getElem?_cons_succ, List.set_cons_zero, List.set_cons_succ, Nat.reduceAdd, Nat.reduceSub, if_true, if_false, ite_true, ite_false, Bool.not_true, Bool.not_false, Bool.and_true, Bool.and_false, Bool.false_eq_true, reduceIte, fin_same, finE_same, fin_new, atI_0, atI_1, atI_2, eqW_ofs, look_ofs, look_nil, dspC, newDc, inW, Option.isSome_some, Option.isSome_none, itM, forM, items_dl, items_dt, methL, methD, arg0, arg1, arg2, appendW, popW, listW, get_new, set_new, isLst_new, pow109, String.reduceBEq, String.reduceEq, Bool.false_or, Bool.true_or, Bool.or_false, Bool.or_true, E, hw, hcf1, hzf1]
  by_cases w4 : w = 2
  · subst w4
    refine new (L.take pl.toNat ++ [ks] ++ L.drop pl.toNat) (t + 1 + 1) (((hL.take.app (Fit.one hkl)).app hL.drop).more (by omega)) (by rw [List.length_append, List.length_append, List.length_take, List.length_drop, List.length_singleton]; omega) (by omega) (by omega) ?_
    unfold b_forged
    refine (pre _).trans ((s0 _ _).trans ((s1 _ _).trans (seq_ret ((if_t (s := tc (t + 1 + 1) :: tl) (by simp only [szs, fnM, rawM, seqM, ifM, tvM, truM, binM, unM, appM, consA, nilA, varM, conM, retM, retN, asgM, expM, raiseM, passS, callF, app1, app2, noExc, isExc_d, isExc_c, bindS_ok, bindS_err, bindS_stuck, Res.bind_ok, Res.bind_err, Res.bind_stuck, onBl_bl, andT, orT, notT, andV, orV, notV, tupM, lstM, toDs, toD, asD_d, asD_new, frzW_d, newT, newL, slM, slW, someO, noneO, ixW, addW, subW, mulW, modW, cmpW, negW, lenW, intW, tabW, isNonB, isNonW, isNon_d, List.map_cons, List.map_nil, List.length_cons, List.length_nil, List.replicate, List.append_nil, List.nil_append, List.cons_append, List.getElem?_cons_zero, List.getElem?_cons_succ, List.set_cons_zero, List.set_cons_succ, Nat.reduceAdd, Nat.reduceSub, if_true, if_false, ite_true, ite_false, Bool.not_true, Bool.not_false, Bool.and_true, Bool.and_false, Bool.false_eq_true, reduceIte, fin_same, finE_same, fin_new, atI_0, atI_1, atI_2, eqW_ofs, look_ofs, look_nil, dspC, newDc, inW, Option.isSome_some, Option.isSome_none, itM, forM, items_dl, items_dt, methL, methD, arg0, arg1, arg2, appendW, popW, listW, get_new, set_new, isLst_new, pow109, String.reduceBEq, String.reduceEq, Bool.false_or, Bool.true_or, Bool.or_false, Bool.or_true, E, eqW_int, beq_self_eq_true])).trans ?_))))
    exact three ks pl.toNat (t + 1 + 1) none none (varM 5) _ (by omega) (by simp only [szs, fnM, rawM, seqM, ifM, tvM, truM, binM, unM, appM, consA, nilA, varM, conM, retM, retN, asgM, expM, raiseM, passS, callF, app1, app2, noExc, isExc_d, isExc_c, bindS_ok, bindS_err, bindS_stuck, Res.bind_ok, Res.bind_err, Res.bind_stuck, onBl_bl, andT, orT, notT, andV, orV, notV, tupM, lstM, toDs, toD, asD_d, asD_new, frzW_d, newT, newL, slM, slW, someO, noneO, ixW, addW, subW, mulW, modW, cmpW, negW, lenW, intW, tabW, isNonB, isNonW, isNon_d, List.map_cons, List.map_nil, List.length_cons, List.length_nil, List.replicate, List.append_nil, List.nil_append, List.cons_append, List.getElem?_cons_zero, List.getElem?_cons_succ, List.set_cons_zero, List.set_cons_succ, Nat.reduceAdd, Nat.reduceSub, if_true, if_false, ite_true, ite_false, Bool.not_true, Bool.not_false, Bool.and_true, Bool.and_false, Bool.false_eq_true, reduceIte, fin_same, finE_same, fin_new, atI_0, atI_1, atI_2, eqW_ofs, look_ofs, look_nil, dspC, newDc, inW, Option.isSome_some, Option.isSome_none, itM, forM, items_dl, items_dt, methL, methD, arg0, arg1, arg2, appendW, popW, listW, get_new, set_new, isLst_new, pow109, String.reduceBEq, String.reduceEq, Bool.false_or, Bool.true_or, Bool.or_false, Bool.or_true, E]) (by simp only [szs, fnM, rawM, seqM, ifM, tvM, truM, binM, unM, appM, consA, nilA, varM, conM, retM, retN, asgM, expM, raiseM, passS, callF, app1, app2, noExc, isExc_d, isExc_c, bindS_ok, bindS_err, bindS_stuck, Res.bind_ok, Res.bind_err, Res.bind_stuck, onBl_bl, andT, orT, notT, andV, orV, notV, tupM, lstM, toDs, toD, asD_d, asD_new, frzW_d, newT, newL, slM, slW, someO, noneO, ixW, addW, subW, mulW, modW, cmpW, negW, lenW, intW, tabW, isNonB, isNonW, isNon_d, List.map_cons, List.map_nil, List.length_cons, List.length_nil, List.replicate, List.append_nil, List.nil_append, List.cons_append, List.getElem?_cons_zero, List.getElem?_cons_succ, List.set_cons_zero, List.set_cons_succ, Nat.reduceAdd, Nat.reduceSub, if_true, if_false, ite_true, ite_false, Bool.not_true, Bool.not_false, Bool.and_true, Bool.and_false, Bool.false_eq_true, reduceIte, fin_same, finE_same, fin_new, atI_0, atI_1, atI_2, eqW_ofs, look_ofs, look_nil, dspC, newDc, inW, Option.isSome_some, Option.isSome_none, itM, forM, items_dl, items_dt, methL, methD, arg0, arg1, arg2, appendW, popW, listW, get_new, set_new, isLst_new, pow109, String.reduceBEq, String.reduceEq, Bool.false_or, Bool.true_or, Bool.or_false, Bool.or_true, E, hw, hcf, hzf])
  have s2 : ∀ (X : MS) (rest : MS), seqM (ifM (tvM (binM (eqW false) (varM 3) (conM (.int 2)))) X passS) rest (E none none) (tc (t + 1 + 1) :: tl) = rest (E none none) (tc (t + 1 + 1) :: tl) := fun X rest => seq_nx (by simp only [szs, fnM, rawM, seqM, ifM, tvM, truM, binM, unM, appM, consA, nilA, varM, conM, retM, retN, asgM, expM, raiseM, passS, callF, app1, app2, noExc, isExc_d, isExc_c, bindS_ok, bindS_err, bindS_stuck, Res.bind_ok, Res.bind_err, Res.bind_stuck, onBl_bl, andT, orT, notT, andV, orV, notV, tupM, lstM, toDs, toD, asD_d, asD_new, frzW_d, newT, newL, slM, slW, someO, noneO, ixW, addW, subW, mulW, modW, cmpW, negW, lenW, intW, tabW, isNonB, isNonW, isNon_d, List.map_cons, List.map_nil, List.length_cons, List.length_nil, List.replicate, List.append_nil, List.nil_append, List.cons_append, List.getElem?_cons_zero, List.getElem?_cons_succ, List.set_cons_zero, List.set_cons_succ, Nat.reduceAdd, Nat.reduceSub, if_true, if_false, ite_true, ite_false, Bool.not_true, Bool.not_false, Bool.and_true, Bool.and_false, Bool.false_eq_true, reduceIte, fin_same, finE_same, fin_new, atI_0, atI_1, atI_2, eqW_ofs, look_ofs, look_nil, dspC, newDc, inW, Option.isSome_some, Option.isSome_none, itM, forM, items_dl, items_dt, methL, methD, arg0, arg1, arg2, appendW, popW, listW, get_new, set_new, isLst_new, pow109, String.reduceBEq, String.reduceEq, Bool.false_or, Bool.true_or, Bool.or_false, Bool.or_true, E, eqW_int, wne 2 w4])
  by_cases w5 : w = 3
  · subst w5
    have hc1 : cut (encK ks) (some 1) none = encK (ks.drop 1) := by
      have := cut_from (encK ks) 1
      rw [show ((1 : Nat) : Int) = 1 from rfl] at this
      rw [this]; simp
    have hz1 : (encK (ks.drop 1)).length ≤ sizeLine := small (by rw [List.length_map, List.length_drop]; omega)
    refine new (L.take pl.toNat ++ [ks.drop 1] ++ L.drop (pl.toNat + 1)) (t + 1 + 1) (((hL.take.app (Fit.one (by rw [List.length_drop]; omega))).app hL.drop).more (by omega)) (by rw [List.length_append, List.length_append, List.length_take, List.length_drop, List.length_singleton]; omega) (by omega) (by omega) ?_
    unfold b_forged
    refine (pre _).trans ((s0 _ _).trans ((s1 _ _).trans ((s2 _ _).trans (seq_ret ((if_t (s := tc (t + 1 + 1) :: tl) (by simp only [szs, fnM, rawM, seqM, ifM, tvM, truM, binM, unM, appM, consA, nilA, varM, conM, retM, retN, asgM, expM, raiseM, passS, callF, app1, app2, noExc, isExc_d, isExc_c, bindS_ok, bindS_err, bindS_stuck, Res.bind_ok, Res.bind_err, Res.bind_stuck, onBl_bl, andT, orT, notT, andV, orV, notV, tupM, lstM, toDs, toD, asD_d, asD_new, frzW_d, newT, newL, slM, slW, someO, noneO, ixW, addW, subW, mulW, modW, cmpW, negW, lenW, intW, tabW, isNonB, isNonW, isNon_d, List.map_cons, List.map_nil, List.length_cons, List.length_nil, List.replicate, List.append_nil, List.nil_append, List.cons_append, List.getElem?_cons_zero, List.getElem?_cons_succ, List.set_cons_zero, List.set_cons_succ, Nat.reduceAdd, Nat.reduceSub, if_true, if_false, ite_true, ite_false, Bool.not_true, Bool.not_false, Bool.and_true, Bool.and_false, Bool.false_eq_true, reduceIte, fin_same, finE_same, fin_new, atI_0, atI_1, atI_2, eqW_ofs, look_ofs, look_nil, dspC, newDc, inW, Option.isSome_some, Option.isSome_none, itM, forM, items_dl, items_dt, methL, methD, arg0, arg1, arg2, appendW, popW, listW, get_new, set_new, isLst_new, pow109, String.reduceBEq, String.reduceEq, Bool.false_or, Bool.true_or, Bool.or_false, Bool.or_true, E, eqW_int, beq_self_eq_true])).trans ?_)))))
    exact three (ks.drop 1) (pl.toNat + 1) (t + 1 + 1) none none _ _ (by rw [List.length_drop]; omega) (by simp only [szs, fnM, rawM, seqM, ifM, tvM, truM, binM, unM, appM, consA, nilA, varM, conM, retM, retN, asgM, expM, raiseM, passS, callF, app1, app2, noExc, isExc_d, isExc_c, bindS_ok, bindS_err, bindS_stuck, Res.bind_ok, Res.bind_err, Res.bind_stuck, onBl_bl, andT, orT, notT, andV, orV, notV, tupM, lstM, toDs, toD, asD_d, asD_new, frzW_d, newT, newL, slM, slW, someO, noneO, ixW, addW, subW, mulW, modW, cmpW, negW, lenW, intW, tabW, isNonB, isNonW, isNon_d, List.map_cons, List.map_nil, List.length_cons, List.length_nil, List.replicate, List.append_nil, List.nil_append, List.cons_append, List.getElem?_cons_zero, List.getElem?_cons_succ, List.set_cons_zero, List.set_cons_succ, Nat.reduceAdd, Nat.reduceSub, if_true, if_false, ite_true, ite_false, Bool.not_true, Bool.not_false, Bool.and_true, Bool.and_false, Bool.false_eq_true, reduceIte, fin_same, finE_same, fin_new, atI_0, atI_1, atI_2, eqW_ofs, look_ofs, look_nil, dspC, newDc, inW, Option.isSome_some, Option.isSome_none, itM, forM, items_dl, items_dt, methL, methD, arg0, arg1, arg2, appendW, popW, listW, get_new, set_new, isLst_new, pow109, String.reduceBEq, String.reduceEq, Bool.false_or, Bool.true_or, Bool.or_false, Bool.or_true, E, hc1, hz1]) (eX1 _ _ _)
  have s3 : ∀ (X : MS) (rest : MS), seqM (ifM (tvM (binM (eqW false) (varM 3) (conM (.int 3)))) X passS) rest (E none none) (tc (t + 1 + 1) :: tl) = rest (E none none) (tc (t + 1 + 1) :: tl) := fun X rest => seq_nx (by simp only [szs, fnM, rawM, seqM, ifM, tvM, truM, binM, unM, appM, consA, nilA, varM, conM, retM, retN, asgM, expM, raiseM, passS, callF, app1, app2, noExc, isExc_d, isExc_c, bindS_ok, bindS_err, bindS_stuck, Res.bind_ok, Res.bind_err, Res.bind_stuck, onBl_bl, andT, orT, notT, andV, orV, notV, tupM, lstM, toDs, toD, asD_d, asD_new, frzW_d, newT, newL, slM, slW, someO, noneO, ixW, addW, subW, mulW, modW, cmpW, negW, lenW, intW, tabW, isNonB, isNonW, isNon_d, List.map_cons, List.map_nil, List.length_cons, List.length_nil, List.replicate, List.append_nil, List.nil_append, List.cons_append, List.getElem?_cons_zero, List.getElem?_cons_succ, List.set_cons_zero, List.set_cons_succ, Nat.reduceAdd, Nat.reduceSub, if_true, if_false, ite_true, ite_false, Bool.not_true, Bool.not_false, Bool.and_true, Bool.and_false, Bool.false_eq_true, reduceIte, fin_same, finE_same, fin_new, atI_0, atI_1, atI_2, eqW_ofs, look_ofs, look_nil, dspC, newDc, inW, Option.isSome_some, Option.isSome_none, itM, forM, items_dl, items_dt, methL, methD, arg0, arg1, arg2, appendW, popW, listW, get_new, set_new, isLst_new, pow109, String.reduceBEq, String.reduceEq, Bool.false_or, Bool.true_or, Bool.or_false, Bool.or_true, E, eqW_int, wne 3 w5])
  by_cases w6 : w = 4
  · subst w6
    obtain ⟨c, c0, c1, ec⟩ := draw0 ns (t + 1 + 1) 2 tl (by omega) (by omega) (by decide)
    obtain ⟨kd, ek⟩ := kdAt c c0 c1
    have happ : encK ks ++ [kd.enc] = encK (ks ++ [kd]) := by simp
    have hz1 : (encK (ks ++ [kd])).length ≤ sizeLine := small (by rw [List.length_map, List.length_append, List.length_singleton]; omega)
    refine new (L.take pl.toNat ++ [ks ++ [kd]] ++ L.drop (pl.toNat + 1)) (t + 1 + 1 + 1) (((hL.take.more (by omega)).app (Fit.one (by rw [List.length_append, List.length_singleton]; omega))).app (hL.drop.more (by omega))) (by rw [List.length_append, List.length_append, List.length_take, List.length_drop, List.length_singleton]; omega) (by omega) (by omega) ?_
    unfold b_forged
    refine (pre _).trans ((s0 _ _).trans ((s1 _ _).trans ((s2 _ _).trans ((s3 _ _).trans (seq_ret ((if_t (s := tc (t + 1 + 1) :: tl) (by simp only [szs, fnM, rawM, seqM, ifM, tvM, truM, binM, unM, appM, consA, nilA, varM, conM, retM, retN, asgM, expM, raiseM, passS, callF, app1, app2, noExc, isExc_d, isExc_c, bindS_ok, bindS_err, bindS_stuck, Res.bind_ok, Res.bind_err, Res.bind_stuck, onBl_bl, andT, orT, notT, andV, orV, notV, tupM, lstM, toDs, toD, asD_d, asD_new, frzW_d, newT, newL, slM, slW, someO, noneO, ixW, addW, subW, mulW, modW, cmpW, negW, lenW, intW, tabW, isNonB, isNonW, isNon_d, List.map_cons, List.map_nil, List.length_cons, List.length_nil, List.replicate, List.append_nil, List.nil_append, List.cons_append, List.getElem?_cons_zero, List.getElem?_cons_succ, List.set_cons_zero, List.set_cons_succ, Nat.reduceAdd, Nat.reduceSub, if_true, if_false, ite_true, ite_false, Bool.not_true, Bool.not_false, Bool.and_true, Bool.and_false, Bool.false_eq_true, reduceIte, fin_same, finE_same, fin_new, atI_0, atI_1, atI_2, eqW_ofs, look_ofs, look_nil, dspC, newDc, inW, Option.isSome_some, Option.isSome_none, itM, forM, items_dl, items_dt, methL, methD, arg0, arg1, arg2, appendW, popW, listW, get_new, set_new, isLst_new, pow109, String.reduceBEq, String.reduceEq, Bool.false_or, Bool.true_or, Bool.or_false, Bool.or_true, E, eqW_int, beq_self_eq_true])).trans ?_))))))
    exact three (ks ++ [kd]) (pl.toNat + 1) (t + 1 + 1 + 1) none none _ _ (by rw [List.length_append, List.length_singleton]; omega) (by simp only [szs, fnM, rawM, seqM, ifM, tvM, truM, binM, unM, appM, consA, nilA, varM, conM, retM, retN, asgM, expM, raiseM, passS, callF, app1, app2, noExc, isExc_d, isExc_c, bindS_ok, bindS_err, bindS_stuck, Res.bind_ok, Res.bind_err, Res.bind_stuck, onBl_bl, andT, orT, notT, andV, orV, notV, tupM, lstM, toDs, toD, asD_d, asD_new, frzW_d, newT, newL, slM, slW, someO, noneO, ixW, addW, subW, mulW, modW, cmpW, negW, lenW, intW, tabW, isNonB, isNonW, isNon_d, List.map_cons, List.map_nil, List.length_cons, List.length_nil, List.replicate, List.append_nil, List.nil_append, List.cons_append, List.getElem?_cons_zero, List.getElem?_cons_succ, List.set_cons_zero, List.set_cons_succ, Nat.reduceAdd, Nat.reduceSub, if_true, if_false, ite_true, ite_false, Bool.not_true, Bool.not_false, Bool.and_true, Bool.and_false, Bool.false_eq_true, reduceIte, fin_same, finE_same, fin_new, atI_0, atI_1, atI_2, eqW_ofs, look_ofs, look_nil, dspC, newDc, inW, Option.isSome_some, Option.isSome_none, itM, forM, items_dl, items_dt, methL, methD, arg0, arg1, arg2, appendW, popW, listW, get_new, set_new, isLst_new, pow109, String.reduceBEq, String.reduceEq, Bool.false_or, Bool.true_or, Bool.or_false, Bool.or_true, E, ec, ek, happ, hz1]) (eX1 _ _ _)
  have s4 : ∀ (X : MS) (rest : MS), seqM (ifM (tvM (binM (eqW false) (varM 3) (conM (.int 4)))) X passS) rest (E none none) (tc (t + 1 + 1) :: tl) = rest (E none none) (tc (t + 1 + 1) :: tl) := fun X rest => seq_nx (by simp only [szs, fnM, rawM, seqM, ifM, tvM, truM, binM, unM, appM, consA, nilA, varM, conM, retM, retN, asgM, expM, raiseM, passS, callF, app1, app2, noExc, isExc_d, isExc_c, bindS_ok, bindS_err, bindS_stuck, Res.bind_ok, Res.bind_err, Res.bind_stuck, onBl_bl, andT, orT, notT, andV, orV, notV, tupM, lstM, toDs, toD, asD_d, asD_new, frzW_d, newT, newL, slM, slW, someO, noneO, ixW, addW, subW, mulW, modW, cmpW, negW, lenW, intW, tabW, isNonB, isNonW, isNon_d, List.map_cons, List.map_nil, List.length_cons, List.length_nil, List.replicate, List.append_nil, List.nil_append, List.cons_append, List.getElem?_cons_zero, List.getElem?_cons_succ, List.set_cons_zero, List.set_cons_succ, Nat.reduceAdd, Nat.reduceSub, if_true, if_false, ite_true, ite_false, Bool.not_true, Bool.not_false, Bool.and_true, Bool.and_false, Bool.false_eq_true, reduceIte, fin_same, finE_same, fin_new, atI_0, atI_1, atI_2, eqW_ofs, look_ofs, look_nil, dspC, newDc, inW, Option.isSome_some, Option.isSome_none, itM, forM, items_dl, items_dt, methL, methD, arg0, arg1, arg2, appendW, popW, listW, get_new, set_new, isLst_new, pow109, String.reduceBEq, String.reduceEq, Bool.false_or, Bool.true_or, Bool.or_false, Bool.or_true, E, eqW_int, wne 4 w6])
  have hlk : ((encK ks).length : Int) = (ks.length : Int) := by rw [List.length_map]
  by_cases w7 : w = 5 ∧ (ks.length : Int) > 0
  · obtain ⟨w7, hk0⟩ := w7
    subst w7
    obtain ⟨c, c0, c1, ec⟩ := draw0 ns (t + 1 + 1) 1000 tl (by omega) (by omega) (by decide)
    obtain ⟨d0, d1⟩ := mod_in (v := c) hk0
    let sp : Int := c % (ks.length : Int)
    obtain ⟨kd, _, ekd⟩ := atI_in Kd.enc ks sp d0 d1
    obtain ⟨ko, eko⟩ : ∃ ko : Kd, ∀ st, binM ixW (lstM false (consA (conM (.str "num")) (consA (conM (.str "text")) nilA))) (appM (app1 intW) (consA (binM (eqW false) (binM ixW (varM 5) (varM 6)) (conM (.str "num"))) nilA)) (E (some (.d (.int sp))) none) st = .ok (.d ko.enc) st := by
      cases kd with
      | num => exact ⟨.text, fun st => by simp only [szs, fnM, rawM, seqM, ifM, tvM, truM, binM, unM, appM, consA, nilA, varM, conM, retM, retN, asgM, expM, raiseM, passS, callF, app1, app2, noExc, isExc_d, isExc_c, bindS_ok, bindS_err, bindS_stuck, Res.bind_ok, Res.bind_err, Res.bind_stuck, onBl_bl, andT, orT, notT, andV, orV, notV, tupM, lstM, toDs, toD, asD_d, asD_new, frzW_d, newT, newL, slM, slW, someO, noneO, ixW, addW, subW, mulW, modW, cmpW, negW, lenW, intW, tabW, isNonB, isNonW, isNon_d, List.map_cons, List.map_nil, List.length_cons, List.length_nil, List.replicate, List.append_nil, List.nil_append, List.cons_append, List.getElem?_cons_zero, List.getElem?_cons_succ, List.set_cons_zero, List.set_cons_succ, Nat.reduceAdd, Nat.reduceSub, if_true, if_false, ite_true, ite_false, Bool.not_true, Bool.not_false, Bool.and_true, Bool.and_false, Bool.false_eq_true, reduceIte, fin_same, finE_same, fin_new, atI_0, atI_1, atI_2, eqW_ofs, look_ofs, look_nil, dspC, newDc, inW, Option.isSome_some, Option.isSome_none, itM, forM, items_dl, items_dt, methL, methD, arg0, arg1, arg2, appendW, popW, listW, get_new, set_new, isLst_new, pow109, String.reduceBEq, String.reduceEq, Bool.false_or, Bool.true_or, Bool.or_false, Bool.or_true, E, ekd, Kd.enc, Kd.s]⟩
      | text => exact ⟨.num, fun st => by simp only [szs, fnM, rawM, seqM, ifM, tvM, truM, binM, unM, appM, consA, nilA, varM, conM, retM, retN, asgM, expM, raiseM, passS, callF, app1, app2, noExc, isExc_d, isExc_c, bindS_ok, bindS_err, bindS_stuck, Res.bind_ok, Res.bind_err, Res.bind_stuck, onBl_bl, andT, orT, notT, andV, orV, notV, tupM, lstM, toDs, toD, asD_d, asD_new, frzW_d, newT, newL, slM, slW, someO, noneO, ixW, addW, subW, mulW, modW, cmpW, negW, lenW, intW, tabW, isNonB, isNonW, isNon_d, List.map_cons, List.map_nil, List.length_cons, List.length_nil, List.replicate, List.append_nil, List.nil_append, List.cons_append, List.getElem?_cons_zero, List.getElem?_cons_succ, List.set_cons_zero, List.set_cons_succ, Nat.reduceAdd, Nat.reduceSub, if_true, if_false, ite_true, ite_false, Bool.not_true, Bool.not_false, Bool.and_true, Bool.and_false, Bool.false_eq_true, reduceIte, fin_same, finE_same, fin_new, atI_0, atI_1, atI_2, eqW_ofs, look_ofs, look_nil, dspC, newDc, inW, Option.isSome_some, Option.isSome_none, itM, forM, items_dl, items_dt, methL, methD, arg0, arg1, arg2, appendW, popW, listW, get_new, set_new, isLst_new, pow109, String.reduceBEq, String.reduceEq, Bool.false_or, Bool.true_or, Bool.or_false, Bool.or_true, E, ekd, Kd.enc, Kd.s]⟩
    have hc1 : cut (encK ks) none (some sp) = encK (ks.take sp.toNat) := by
      have := cut_to (encK ks) sp.toNat
      rw [Int.toNat_of_nonneg d0] at this
      rw [this]; simp
    have hc2 : cut (encK ks) (some (sp + 1)) none = encK (ks.drop (sp.toNat + 1)) := by
      have := cut_from (encK ks) (sp.toNat + 1)
      rw [show ((sp.toNat + 1 : Nat) : Int) = sp + 1 by omega] at this
      rw [this]; simp
    let mid : List Kd := ks.take sp.toNat ++ [ko] ++ ks.drop (sp.toNat + 1)
    have hml : mid.length ≤ n + 1 := by simp only [mid]; rw [List.length_append, List.length_append, List.length_take, List.length_drop, List.length_singleton]; omega
    have hz1 : (encK (ks.take sp.toNat)).length ≤ sizeLine := small (by rw [List.length_map, List.length_take]; omega)
    have hz2 : (encK (ks.take sp.toNat) ++ [ko.enc]).length ≤ sizeLine := small (by rw [List.length_append, List.length_map, List.length_take, List.length_singleton]; omega)
    have hz3 : (encK (ks.drop (sp.toNat + 1))).length ≤ sizeLine := small (by rw [List.length_map, List.length_drop]; omega)
    have happ : encK (ks.take sp.toNat) ++ [ko.enc] ++ encK (ks.drop (sp.toNat + 1)) = encK mid := by simp [mid]
    have hz4 : (encK mid).length ≤ sizeLine := small (by rw [List.length_map]; omega)
    refine new (L.take pl.toNat ++ [mid] ++ L.drop (pl.toNat + 1)) (t + 1 + 1 + 1) (((hL.take.more (by omega)).app (Fit.one hml)).app (hL.drop.more (by omega))) (by rw [List.length_append, List.length_append, List.length_take, List.length_drop, List.length_singleton]; omega) (by omega) (by omega) ?_
    unfold b_forged
    refine (pre _).trans ((s0 _ _).trans ((s1 _ _).trans ((s2 _ _).trans ((s3 _ _).trans ((s4 _ _).trans (seq_ret ((if_t (s := tc (t + 1 + 1) :: tl) (by simp only [szs, fnM, rawM, seqM, ifM, tvM, truM, binM, unM, appM, consA, nilA, varM, conM, retM, retN, asgM, expM, raiseM, passS, callF, app1, app2, noExc, isExc_d, isExc_c, bindS_ok, bindS_err, bindS_stuck, Res.bind_ok, Res.bind_err, Res.bind_stuck, onBl_bl, andT, orT, notT, andV, orV, notV, tupM, lstM, toDs, toD, asD_d, asD_new, frzW_d, newT, newL, slM, slW, someO, noneO, ixW, addW, subW, mulW, modW, cmpW, negW, lenW, intW, tabW, isNonB, isNonW, isNon_d, List.map_cons, List.map_nil, List.length_cons, List.length_nil, List.replicate, List.append_nil, List.nil_append, List.cons_append, List.getElem?_cons_zero, List.getElem?_cons_succ, List.set_cons_zero, List.set_cons_succ, Nat.reduceAdd, Nat.reduceSub, if_true, if_false, ite_true, ite_false, Bool.not_true, Bool.not_false, Bool.and_true, Bool.and_false, Bool.false_eq_true, reduceIte, fin_same, finE_same, fin_new, atI_0, atI_1, atI_2, eqW_ofs, look_ofs, look_nil, dspC, newDc, inW, Option.isSome_some, Option.isSome_none, itM, forM, items_dl, items_dt, methL, methD, arg0, arg1, arg2, appendW, popW, listW, get_new, set_new, isLst_new, pow109, String.reduceBEq, String.reduceEq, Bool.false_or, Bool.true_or, Bool.or_false, Bool.or_true, E, eqW_int, beq_self_eq_true, gtW, hlk, hk0, decide_true])).trans ?_)))))))
    refine (seq_nx (e := E (some (.d (.int sp))) none) (s := tc (t + 1 + 1 + 1) :: tl) (by simp only [szs, fnM, rawM, seqM, ifM, tvM, truM, binM, unM, appM, consA, nilA, varM, conM, retM, retN, asgM, expM, raiseM, passS, callF, app1, app2, noExc, isExc_d, isExc_c, bindS_ok, bindS_err, bindS_stuck, Res.bind_ok, Res.bind_err, Res.bind_stuck, onBl_bl, andT, orT, notT, andV, orV, notV, tupM, lstM, toDs, toD, asD_d, asD_new, frzW_d, newT, newL, slM, slW, someO, noneO, ixW, addW, subW, mulW, modW, cmpW, negW, lenW, intW, tabW, isNonB, isNonW, isNon_d, List.map_cons, List.map_nil, List.length_cons, List.length_nil, List.replicate, List.append_nil, List.nil_append, List.cons_append, List.getElem?_cons_zero, List.getElem?_cons_succ, List.set_cons_zero, List.set_cons_succ, Nat.reduceAdd, Nat.reduceSub, if_true, if_false, ite_true, ite_false, Bool.not_true, Bool.not_false, Bool.and_true, Bool.and_false, Bool.false_eq_true, reduceIte, fin_same, finE_same, fin_new, atI_0, atI_1, atI_2, eqW_ofs, look_ofs, look_nil, dspC, newDc, inW, Option.isSome_some, Option.isSome_none, itM, forM, items_dl, items_dt, methL, methD, arg0, arg1, arg2, appendW, popW, listW, get_new, set_new, isLst_new, pow109, String.reduceBEq, String.reduceEq, Bool.false_or, Bool.true_or, Bool.or_false, Bool.or_true, E, ec, hlk, hk0]; rfl)).trans ?_
    refine (seq_nx (e := E (some (.d (.int sp))) (some (.d ko.enc))) (s := tc (t + 1 + 1 + 1) :: tl) (asg_ok (eko _))).trans ?_
    have hz1' : (encKK (L.take pl.toNat) ++ [D.tup (encK mid)]).length ≤ sizeLine := small (by rw [List.length_append, List.length_map, List.length_take, List.length_singleton]; omega)
    have happ' : encKK (L.take pl.toNat) ++ [D.tup (encK mid)] ++ encKK (L.drop (pl.toNat + 1)) = encKK (L.take pl.toNat ++ [mid] ++ L.drop (pl.toNat + 1)) := by simp
    have hz2' : (encKK (L.take pl.toNat ++ [mid] ++ L.drop (pl.toNat + 1))).length ≤ sizeLine := small (by rw [List.length_map, List.length_append, List.length_append, List.length_take, List.length_drop, List.length_singleton]; omega)
    simp only [szs, fnM, rawM, seqM, ifM, tvM, truM, binM, unM, appM, consA, nilA, varM, conM, retM, retN, asgM, expM, raiseM, passS, callF, app1, app2, noExc, isExc_d, isExc_c, bindS_ok, bindS_err, bindS_stuck, Res.bind_ok, Res.bind_err, Res.bind_stuck, onBl_bl, andT, orT, notT, andV, orV, notV, tupM, lstM, toDs, toD, asD_d, asD_new, frzW_d, newT, newL, slM, slW, someO, noneO, ixW, addW, subW, mulW, modW, cmpW, negW, lenW, intW, tabW, isNonB, isNonW, isNon_d, List.map_cons, List.map_nil, List.length_cons, List.length_nil, List.replicate, List.append_nil, List.nil_append, List.cons_append, List.getElem?_cons_zero, List.getElem?_cons_succ, List.set_cons_zero, List.set_cons_succ, Nat.reduceAdd, Nat.reduceSub, if_true, if_false, ite_true, ite_false, Bool.not_true, Bool.not_false, Bool.and_true, Bool.and_false, Bool.false_eq_true, reduceIte, fin_same, finE_same, fin_new, atI_0, atI_1, atI_2, eqW_ofs, look_ofs, look_nil, dspC, newDc, inW, Option.isSome_some, Option.isSome_none, itM, forM, items_dl, items_dt, methL, methD, arg0, arg1, arg2, appendW, popW, listW, get_new, set_new, isLst_new, pow109, String.reduceBEq, String.reduceEq, Bool.false_or, Bool.true_or, Bool.or_false, Bool.or_true, E, hw, hct, hzt, hc1, hz1, hz2, hc2, hz3, happ, hz4, hz1', hcf1, hzf1, happ', hz2']
  have s5 : ∀ (X : MS) (rest : MS), seqM (ifM (andT (tvM (binM (eqW false) (varM 3) (conM (.int 5)))) (tvM (binM gtW (appM (app1 lenW) (consA (varM 5) nilA)) (conM (.int 0))))) X passS) rest (E none none) (tc (t + 1 + 1) :: tl) = rest (E none none) (tc (t + 1 + 1) :: tl) := fun X rest => seq_nx (by
    by_cases h5 : w = 5
    · have hk0 : decide ((ks.length : Int) > 0) = false := decide_eq_false fun h => w7 ⟨h5, h⟩
      have h5' : (w == 5) = true := by simpa using h5
      simp only [szs, fnM, rawM, seqM, ifM, tvM, truM, binM, unM, appM, consA, nilA, varM, conM, retM, retN, asgM, expM, raiseM, passS, callF, app1, app2, noExc, isExc_d, isExc_c, bindS_ok, bindS_err, bindS_stuck, Res.bind_ok, Res.bind_err, Res.bind_stuck, onBl_bl, andT, orT, notT, andV, orV, notV, tupM, lstM, toDs, toD, asD_d, asD_new, frzW_d, newT, newL, slM, slW, someO, noneO, ixW, addW, subW, mulW, modW, cmpW, negW, lenW, intW, tabW, isNonB, isNonW, isNon_d, List.map_cons, List.map_nil, List.length_cons, List.length_nil, List.replicate, List.append_nil, List.nil_append, List.cons_append, List.getElem?_cons_zero, List.getElem?_cons_succ, List.set_cons_zero, List.set_cons_succ, Nat.reduceAdd, Nat.reduceSub, if_true, if_false, ite_true, ite_false, Bool.not_true, Bool.not_false, Bool.and_true, Bool.and_false, Bool.false_eq_true, reduceIte, fin_same, finE_same, fin_new, atI_0, atI_1, atI_2, eqW_ofs, look_ofs, look_nil, dspC, newDc, inW, Option.isSome_some, Option.isSome_none, itM, forM, items_dl, items_dt, methL, methD, arg0, arg1, arg2, appendW, popW, listW, get_new, set_new, isLst_new, pow109, String.reduceBEq, String.reduceEq, Bool.false_or, Bool.true_or, Bool.or_false, Bool.or_true, E, eqW_int, h5', gtW, hlk, hk0]
    · simp only [szs, fnM, rawM, seqM, ifM, tvM, truM, binM, unM, appM, consA, nilA, varM, conM, retM, retN, asgM, expM, raiseM, passS, callF, app1, app2, noExc, isExc_d, isExc_c, bindS_ok, bindS_err, bindS_stuck, Res.bind_ok, Res.bind_err, Res.bind_stuck, onBl_bl, andT, orT, notT, andV, orV, notV, tupM, lstM, toDs, toD, asD_d, asD_new, frzW_d, newT, newL, slM, slW, someO, noneO, ixW, addW, subW, mulW, modW, cmpW, negW, lenW, intW, tabW, isNonB, isNonW, isNon_d, List.map_cons, List.map_nil, List.length_cons, List.length_nil, List.replicate, List.append_nil, List.nil_append, List.cons_append, List.getElem?_cons_zero, List.getElem?_cons_succ, List.set_cons_zero, List.set_cons_succ, Nat.reduceAdd, Nat.reduceSub, if_true, if_false, ite_true, ite_false, Bool.not_true, Bool.not_false, Bool.and_true, Bool.and_false, Bool.false_eq_true, reduceIte, fin_same, finE_same, fin_new, atI_0, atI_1, atI_2, eqW_ofs, look_ofs, look_nil, dspC, newDc, inW, Option.isSome_some, Option.isSome_none, itM, forM, items_dl, items_dt, methL, methD, arg0, arg1, arg2, appendW, popW, listW, get_new, set_new, isLst_new, pow109, String.reduceBEq, String.reduceEq, Bool.false_or, Bool.true_or, Bool.or_false, Bool.or_true, E, eqW_int, wne 5 h5])
  by_cases w8 : w = 6
  · subst w8
    have hrv : (encKK L).reverse = encKK L.reverse := by simp
    have hz : (encKK L.reverse).length ≤ sizeLine := small (by rw [List.length_map, List.length_reverse]; omega)
    refine new L.reverse (t + 1 + 1) (fun k hk => Nat.le_trans (hL k (List.mem_reverse.mp hk)) (by omega)) (by rw [List.length_reverse]; omega) (by omega) (by omega) ?_
    unfold b_forged
    refine (pre _).trans ((s0 _ _).trans ((s1 _ _).trans ((s2 _ _).trans ((s3 _ _).trans ((s4 _ _).trans ((s5 _ _).trans (seq_ret ((if_t (s := tc (t + 1 + 1) :: tl) (by simp only [szs, fnM, rawM, seqM, ifM, tvM, truM, binM, unM, appM, consA, nilA, varM, conM, retM, retN, asgM, expM, raiseM, passS, callF, app1, app2, noExc, isExc_d, isExc_c, bindS_ok, bindS_err, bindS_stuck, Res.bind_ok, Res.bind_err, Res.bind_stuck, onBl_bl, andT, orT, notT, andV, orV, notV, tupM, lstM, toDs, toD, asD_d, asD_new, frzW_d, newT, newL, slM, slW, someO, noneO, ixW, addW, subW, mulW, modW, cmpW, negW, lenW, intW, tabW, isNonB, isNonW, isNon_d, List.map_cons, List.map_nil, List.length_cons, List.length_nil, List.replicate, List.append_nil, List.nil_append, List.cons_append, List.getElem?_cons_zero, List.getElem?_cons_succ, List.set_cons_zero, List.set_cons_succ, Nat.reduceAdd, Nat.reduceSub, if_true, if_false, ite_true, ite_false, Bool.not_true, Bool.not_false, Bool.and_true, Bool.and_false, Bool.false_eq_true, reduceIte, fin_same, finE_same, fin_new, atI_0, atI_1, atI_2, eqW_ofs, look_ofs, look_nil, dspC, newDc, inW, Option.isSome_some, Option.isSome_none, itM, forM, items_dl, items_dt, methL, methD, arg0, arg1, arg2, appendW, popW, listW, get_new, set_new, isLst_new, pow109, String.reduceBEq, String.reduceEq, Bool.false_or, Bool.true_or, Bool.or_false, Bool.or_true, E, eqW_int, beq_self_eq_true])).trans ?_))))))))
    simp only [szs, fnM, rawM, seqM, ifM, tvM, truM, binM, unM, appM, consA, nilA, varM, conM, retM, retN, asgM, expM, raiseM, passS, callF, app1, app2, noExc, isExc_d, isExc_c, bindS_ok, bindS_err, bindS_stuck, Res.bind_ok, Res.bind_err, Res.bind_stuck, onBl_bl, andT, orT, notT, andV, orV, notV, tupM, lstM, toDs, toD, asD_d, asD_new, frzW_d, newT, newL, slM, slW, someO, noneO, ixW, addW, subW, mulW, modW, cmpW, negW, lenW, intW, tabW, isNonB, isNonW, isNon_d, List.map_cons, List.map_nil, List.length_cons, List.length_nil, List.replicate, List.append_nil, List.nil_append, List.cons_append, List.getElem?_cons_zero, List.getElem?_cons_succ, List.set_cons_zero, List.set_cons_succ, Nat.reduceAdd, Nat.reduceSub, if_true, if_false, ite_true, ite_false, Bool.not_true, Bool.not_false, Bool.and_true, Bool.and_false, Bool.false_eq_true, reduceIte, fin_same, finE_same, fin_new, atI_0, atI_1, atI_2, eqW_ofs, look_ofs, look_nil, dspC, newDc, inW, Option.isSome_some, Option.isSome_none, itM, forM, items_dl, items_dt, methL, methD, arg0, arg1, arg2, appendW, popW, listW, get_new, set_new, isLst_new, pow109, String.reduceBEq, String.reduceEq, Bool.false_or, Bool.true_or, Bool.or_false, Bool.or_true, E, revW, hw, hrv, hz]
  · refine ⟨L, t + 1 + 1, j, [], hL.more (by omega), by omega, by omega, by omega, by simpa using hj, by simpa using hw, ?_⟩
    rw [List.append_nil]
    refine (fnM_ret rfl ?_).trans (fin_own hj)
    unfold b_forged
    refine (pre _).trans ((s0 _ _).trans ((s1 _ _).trans ((s2 _ _).trans ((s3 _ _).trans ((s4 _ _).trans ((s5 _ _).trans ((seq_nx (e := E none none) (s := tc (t + 1 + 1) :: tl) (by simp only [szs, fnM, rawM, seqM, ifM, tvM, truM, binM, unM, appM, consA, nilA, varM, conM, retM, retN, asgM, expM, raiseM, passS, callF, app1, app2, noExc, isExc_d, isExc_c, bindS_ok, bindS_err, bindS_stuck, Res.bind_ok, Res.bind_err, Res.bind_stuck, onBl_bl, andT, orT, notT, andV, orV, notV, tupM, lstM, toDs, toD, asD_d, asD_new, frzW_d, newT, newL, slM, slW, someO, noneO, ixW, addW, subW, mulW, modW, cmpW, negW, lenW, intW, tabW, isNonB, isNonW, isNon_d, List.map_cons, List.map_nil, List.length_cons, List.length_nil, List.replicate, List.append_nil, List.nil_append, List.cons_append, List.getElem?_cons_zero, List.getElem?_cons_succ, List.set_cons_zero, List.set_cons_succ, Nat.reduceAdd, Nat.reduceSub, if_true, if_false, ite_true, ite_false, Bool.not_true, Bool.not_false, Bool.and_true, Bool.and_false, Bool.false_eq_true, reduceIte, fin_same, finE_same, fin_new, atI_0, atI_1, atI_2, eqW_ofs, look_ofs, look_nil, dspC, newDc, inW, Option.isSome_some, Option.isSome_none, itM, forM, items_dl, items_dt, methL, methD, arg0, arg1, arg2, appendW, popW, listW, get_new, set_new, isLst_new, pow109, String.reduceBEq, String.reduceEq, Bool.false_or, Bool.true_or, Bool.or_false, Bool.or_true, E, eqW_int, wne 6 w8])).trans ?_)))))))
    simp only [szs, fnM, rawM, seqM, ifM, tvM, truM, binM, unM, appM, consA, nilA, varM, conM, retM, retN, asgM, expM, raiseM, passS, callF, app1, app2, noExc, isExc_d, isExc_c, bindS_ok, bindS_err, bindS_stuck, Res.bind_ok, Res.bind_err, Res.bind_stuck, onBl_bl, andT, orT, notT, andV, orV, notV, tupM, lstM, toDs, toD, asD_d, asD_new, frzW_d, newT, newL, slM, slW, someO, noneO, ixW, addW, subW, mulW, modW, cmpW, negW, lenW, intW, tabW, isNonB, isNonW, isNon_d, List.map_cons, List.map_nil, List.length_cons, List.length_nil, List.replicate, List.append_nil, List.nil_append, List.cons_append, List.getElem?_cons_zero, List.getElem?_cons_succ, List.set_cons_zero, List.set_cons_succ, Nat.reduceAdd, Nat.reduceSub, if_true, if_false, ite_true, ite_false, Bool.not_true, Bool.not_false, Bool.and_true, Bool.and_false, Bool.false_eq_true, reduceIte, fin_same, finE_same, fin_new, atI_0, atI_1, atI_2, eqW_ofs, look_ofs, look_nil, dspC, newDc, inW, Option.isSome_some, Option.isSome_none, itM, forM, items_dl, items_dt, methL, methD, arg0, arg1, arg2, appendW, popW, listW, get_new, set_new, isLst_new, pow109, String.reduceBEq, String.reduceEq, Bool.false_or, Bool.true_or, Bool.or_false, Bool.or_true, E]
end Py

namespace Py
open PySem L2
abbrev E5 (ns : List Int) (way : Int) (N : List Str) (n : Str) (M : List (List Kd)) (wd : String) (j : Nat) (x9 x10 x11 x12 x13 x14 : Option W) : Env :=
  [some (.d (.scr ns)), some (.c 0), some (.d (.int way)), some (.c 1), some (.d (.lst (encS N))), some (.d (.str n)), some (.d (.lst (encKK M))), some (.d (.str (Str.ofString wd))), some (.c j), x9, x10, x11, x12, x13, x14, none]
noncomputable abbrev tail5 : MS := (seqM (asgM 12 (frM (callF s_copy (consA (varM 3) nilA))))
  (seqM (asgM 13 (appM (app1 (listW false)) (consA (varM 8) nilA)))
  (seqM (asgM 14 (callF s_p_holds (consA (varM 3) (consA (varM 5) (consA (varM 13) nilA)))))
  (seqM (ifM (orT (tvM (binM (eqW true) (varM 3) (varM 12))) (orT (tvM (binM (eqW true) (varM 13) (varM 8))) (notT (tvM (unM (isi1 "bool") (varM 14))))))
  (retM (conM (.bl false)))
  passS)
  (retM (binM (eqW false) (varM 14) (andV (binM (eqW false) (varM 7) (conM (.str ""))) (binM (eqW false) (varM 8) (varM 6)))))))))
theorem tail5_ok (ns : List Int) (way : Int) (N : List Str) (n : Str) (M : List (List Kd)) (wd : String) (j : Nat) (x9 x10 x11 : Option W) (P : Prg) (hnd : (P.map (·.1)).Nodup) (hro : ∀ p ∈ P, ∀ r ∈ p.2.rows, r.ok) (hrl : ∀ p ∈ P, p.2.rows.length ≤ 3000) (hl : P.length ≤ 1000)
    (t : Int) (rest : Store) (L : List (List Kd)) (hLl : L.length ≤ 500000) (hj : asD (tc t :: .dct (encP P) :: rest) (.c j) = some (.lst (encKK L)))
    (hh : ∀ w st, asD st w = some (.dct (encP P)) → ∃ r : Bool, r = ((wd == "") && decide (L = M)) ∧ s_p_holds [w, .d (.str n), .d (.lst (encKK L))] st = .ok (.d (.bl r)) st) :
    ∃ S', tail5 (E5 ns way N n M wd j x9 x10 x11 none none none) (tc t :: .dct (encP P) :: rest) = .ret (.d (.bl true)) S' := by
  let S : Store := tc t :: .dct (encP P) :: rest
  let S' : Store := S ++ [.frz (.dct (encP P))]
  have h1 : asD S (.c 1) = some (.dct (encP P)) := rfl
  have h1' : asD S' (.c 1) = some (.dct (encP P)) := asD_app h1 _
  have hj' : asD S' (.c j) = some (.lst (encKK L)) := asD_app hj _
  have hcp := copy_ok0 (.c 1) S P h1 hnd hrl hl
  have hfr : frM (callF s_copy (consA (varM 3) nilA)) (E5 ns way N n M wd j x9 x10 x11 none none none) S = .ok (.d (.dct (encP P))) S' := by
    rw [fr_ok (k := S.length) (s := S ++ [.dct (encP P)]) (d := .dct (encP P)) (by simp only [szs, fnM, rawM, seqM, ifM, tvM, truM, binM, unM, appM, consA, nilA, varM, conM, retM, retN, asgM, expM, raiseM, passS, callF, app1, app2, noExc, isExc_d, isExc_c, bindS_ok, bindS_err, bindS_stuck, Res.bind_ok, Res.bind_err, Res.bind_stuck, onBl_bl, andT, orT, notT, andV, orV, notV, tupM, lstM, toDs, toD, asD_d, asD_new, frzW_d, newT, newL, slM, slW, someO, noneO, ixW, addW, subW, mulW, modW, cmpW, negW, lenW, intW, tabW, isNonB, isNonW, isNon_d, List.map_cons, List.map_nil, List.length_cons, List.length_nil, List.replicate, List.append_nil, List.nil_append, List.cons_append, List.getElem?_cons_zero, List.getElem?_cons_succ, List.set_cons_zero, List.set_cons_succ, Nat.reduceAdd, Nat.reduceSub, if_true, if_false, ite_true, ite_false, Bool.not_true, Bool.not_false, Bool.and_true, Bool.and_false, Bool.false_eq_true, reduceIte, fin_same, finE_same, fin_new, atI_0, atI_1, atI_2, eqW_ofs, look_ofs, look_nil, dspC, newDc, inW, Option.isSome_some, Option.isSome_none, itM, forM, items_dl, items_dt, methL, methD, arg0, arg1, arg2, appendW, popW, listW, get_new, set_new, isLst_new, pow109, String.reduceBEq, String.reduceEq, Bool.false_or, Bool.true_or, Bool.or_false, Bool.or_true, hcp]) (by simp [asD]), set_new]
  obtain ⟨r, hr, eh⟩ := hh (.c 1) S' h1'
  have hz : (encKK L).length ≤ sizeLine := small (by rw [List.length_map]; omega)
  have q1 : eqW true (.c 1) (.d (.dct (encP P))) S' = .ok (.d (.bl false)) S' := by
    unfold eqW
    rw [h1']
    simp only [asD_d, encP_eq0 hnd hro]
    rfl
  have q2 : eqW true (.d (.lst (encKK L))) (.c j) S' = .ok (.d (.bl false)) S' := by
    unfold eqW
    rw [hj']
    simp only [asD_d, eqD_KK, decide_true]
    rfl
  have q3 : eqW false (.c j) (.d (.lst (encKK M))) S' = .ok (.d (.bl (decide (L = M)))) S' := by
    unfold eqW
    rw [hj']
    simp only [asD_d, eqD_KK]
    rfl
  refine ⟨S', ?_⟩
  refine (seq_nx (e := E5 ns way N n M wd j x9 x10 x11 (some (.d (.dct (encP P)))) none none) (s := S') (asg_ok hfr)).trans ?_
  refine (seq_nx (e := E5 ns way N n M wd j x9 x10 x11 (some (.d (.dct (encP P)))) (some (.d (.lst (encKK L)))) none) (s := S') (by simp only [szs, fnM, rawM, seqM, ifM, tvM, truM, binM, unM, appM, consA, nilA, varM, conM, retM, retN, asgM, expM, raiseM, passS, callF, app1, app2, noExc, isExc_d, isExc_c, bindS_ok, bindS_err, bindS_stuck, Res.bind_ok, Res.bind_err, Res.bind_stuck, onBl_bl, andT, orT, notT, andV, orV, notV, tupM, lstM, toDs, toD, asD_d, asD_new, frzW_d, newT, newL, slM, slW, someO, noneO, ixW, addW, subW, mulW, modW, cmpW, negW, lenW, intW, tabW, isNonB, isNonW, isNon_d, List.map_cons, List.map_nil, List.length_cons, List.length_nil, List.replicate, List.append_nil, List.nil_append, List.cons_append, List.getElem?_cons_zero, List.getElem?_cons_succ, List.set_cons_zero, List.set_cons_succ, Nat.reduceAdd, Nat.reduceSub, if_true, if_false, ite_true, ite_false, Bool.not_true, Bool.not_false, Bool.and_true, Bool.and_false, Bool.false_eq_true, reduceIte, fin_same, finE_same, fin_new, atI_0, atI_1, atI_2, eqW_ofs, look_ofs, look_nil, dspC, newDc, inW, Option.isSome_some, Option.isSome_none, itM, forM, items_dl, items_dt, methL, methD, arg0, arg1, arg2, appendW, popW, listW, get_new, set_new, isLst_new, pow109, String.reduceBEq, String.reduceEq, Bool.false_or, Bool.true_or, Bool.or_false, Bool.or_true, hj', hz])).trans ?_
  refine (seq_nx (e := E5 ns way N n M wd j x9 x10 x11 (some (.d (.dct (encP P)))) (some (.d (.lst (encKK L)))) (some (.d (.bl r)))) (s := S') (by simp only [szs, fnM, rawM, seqM, ifM, tvM, truM, binM, unM, appM, consA, nilA, varM, conM, retM, retN, asgM, expM, raiseM, passS, callF, app1, app2, noExc, isExc_d, isExc_c, bindS_ok, bindS_err, bindS_stuck, Res.bind_ok, Res.bind_err, Res.bind_stuck, onBl_bl, andT, orT, notT, andV, orV, notV, tupM, lstM, toDs, toD, asD_d, asD_new, frzW_d, newT, newL, slM, slW, someO, noneO, ixW, addW, subW, mulW, modW, cmpW, negW, lenW, intW, tabW, isNonB, isNonW, isNon_d, List.map_cons, List.map_nil, List.length_cons, List.length_nil, List.replicate, List.append_nil, List.nil_append, List.cons_append, List.getElem?_cons_zero, List.getElem?_cons_succ, List.set_cons_zero, List.set_cons_succ, Nat.reduceAdd, Nat.reduceSub, if_true, if_false, ite_true, ite_false, Bool.not_true, Bool.not_false, Bool.and_true, Bool.and_false, Bool.false_eq_true, reduceIte, fin_same, finE_same, fin_new, atI_0, atI_1, atI_2, eqW_ofs, look_ofs, look_nil, dspC, newDc, inW, Option.isSome_some, Option.isSome_none, itM, forM, items_dl, items_dt, methL, methD, arg0, arg1, arg2, appendW, popW, listW, get_new, set_new, isLst_new, pow109, String.reduceBEq, String.reduceEq, Bool.false_or, Bool.true_or, Bool.or_false, Bool.or_true, eh])).trans ?_
  refine (seq_nx (e := E5 ns way N n M wd j x9 x10 x11 (some (.d (.dct (encP P)))) (some (.d (.lst (encKK L)))) (some (.d (.bl r)))) (s := S') (by simp only [szs, fnM, rawM, seqM, ifM, tvM, truM, binM, unM, appM, consA, nilA, varM, conM, retM, retN, asgM, expM, raiseM, passS, callF, app1, app2, noExc, isExc_d, isExc_c, bindS_ok, bindS_err, bindS_stuck, Res.bind_ok, Res.bind_err, Res.bind_stuck, onBl_bl, andT, orT, notT, andV, orV, notV, tupM, lstM, toDs, toD, asD_d, asD_new, frzW_d, newT, newL, slM, slW, someO, noneO, ixW, addW, subW, mulW, modW, cmpW, negW, lenW, intW, tabW, isNonB, isNonW, isNon_d, List.map_cons, List.map_nil, List.length_cons, List.length_nil, List.replicate, List.append_nil, List.nil_append, List.cons_append, List.getElem?_cons_zero, List.getElem?_cons_succ, List.set_cons_zero, List.set_cons_succ, Nat.reduceAdd, Nat.reduceSub, if_true, if_false, ite_true, ite_false, Bool.not_true, Bool.not_false, Bool.and_true, Bool.and_false, Bool.false_eq_true, reduceIte, fin_same, finE_same, fin_new, atI_0, atI_1, atI_2, eqW_ofs, look_ofs, look_nil, dspC, newDc, inW, Option.isSome_some, Option.isSome_none, itM, forM, items_dl, items_dt, methL, methD, arg0, arg1, arg2, appendW, popW, listW, get_new, set_new, isLst_new, pow109, String.reduceBEq, String.reduceEq, Bool.false_or, Bool.true_or, Bool.or_false, Bool.or_true, q1, q2, isi_bb])).trans ?_
  rw [hr]
  cases hw : wd == "" with
  | true =>
    cases hd : decide (L = M) with
    | true => rw [hd] at q3; simp only [szs, fnM, rawM, seqM, ifM, tvM, truM, binM, unM, appM, consA, nilA, varM, conM, retM, retN, asgM, expM, raiseM, passS, callF, app1, app2, noExc, isExc_d, isExc_c, bindS_ok, bindS_err, bindS_stuck, Res.bind_ok, Res.bind_err, Res.bind_stuck, onBl_bl, andT, orT, notT, andV, orV, notV, tupM, lstM, toDs, toD, asD_d, asD_new, frzW_d, newT, newL, slM, slW, someO, noneO, ixW, addW, subW, mulW, modW, cmpW, negW, lenW, intW, tabW, isNonB, isNonW, isNon_d, List.map_cons, List.map_nil, List.length_cons, List.length_nil, List.replicate, List.append_nil, List.nil_append, List.cons_append, List.getElem?_cons_zero, List.getElem?_cons_succ, List.set_cons_zero, List.set_cons_succ, Nat.reduceAdd, Nat.reduceSub, if_true, if_false, ite_true, ite_false, Bool.not_true, Bool.not_false, Bool.and_true, Bool.and_false, Bool.false_eq_true, reduceIte, fin_same, finE_same, fin_new, atI_0, atI_1, atI_2, eqW_ofs, look_ofs, look_nil, dspC, newDc, inW, Option.isSome_some, Option.isSome_none, itM, forM, items_dl, items_dt, methL, methD, arg0, arg1, arg2, appendW, popW, listW, get_new, set_new, isLst_new, pow109, String.reduceBEq, String.reduceEq, Bool.false_or, Bool.true_or, Bool.or_false, Bool.or_true, hw, q3, eqW_bl, beq_self_eq_true]
    | false => rw [hd] at q3; simp only [szs, fnM, rawM, seqM, ifM, tvM, truM, binM, unM, appM, consA, nilA, varM, conM, retM, retN, asgM, expM, raiseM, passS, callF, app1, app2, noExc, isExc_d, isExc_c, bindS_ok, bindS_err, bindS_stuck, Res.bind_ok, Res.bind_err, Res.bind_stuck, onBl_bl, andT, orT, notT, andV, orV, notV, tupM, lstM, toDs, toD, asD_d, asD_new, frzW_d, newT, newL, slM, slW, someO, noneO, ixW, addW, subW, mulW, modW, cmpW, negW, lenW, intW, tabW, isNonB, isNonW, isNon_d, List.map_cons, List.map_nil, List.length_cons, List.length_nil, List.replicate, List.append_nil, List.nil_append, List.cons_append, List.getElem?_cons_zero, List.getElem?_cons_succ, List.set_cons_zero, List.set_cons_succ, Nat.reduceAdd, Nat.reduceSub, if_true, if_false, ite_true, ite_false, Bool.not_true, Bool.not_false, Bool.and_true, Bool.and_false, Bool.false_eq_true, reduceIte, fin_same, finE_same, fin_new, atI_0, atI_1, atI_2, eqW_ofs, look_ofs, look_nil, dspC, newDc, inW, Option.isSome_some, Option.isSome_none, itM, forM, items_dl, items_dt, methL, methD, arg0, arg1, arg2, appendW, popW, listW, get_new, set_new, isLst_new, pow109, String.reduceBEq, String.reduceEq, Bool.false_or, Bool.true_or, Bool.or_false, Bool.or_true, hw, q3, eqW_bl, beq_self_eq_true]
  | false => simp only [szs, fnM, rawM, seqM, ifM, tvM, truM, binM, unM, appM, consA, nilA, varM, conM, retM, retN, asgM, expM, raiseM, passS, callF, app1, app2, noExc, isExc_d, isExc_c, bindS_ok, bindS_err, bindS_stuck, Res.bind_ok, Res.bind_err, Res.bind_stuck, onBl_bl, andT, orT, notT, andV, orV, notV, tupM, lstM, toDs, toD, asD_d, asD_new, frzW_d, newT, newL, slM, slW, someO, noneO, ixW, addW, subW, mulW, modW, cmpW, negW, lenW, intW, tabW, isNonB, isNonW, isNon_d, List.map_cons, List.map_nil, List.length_cons, List.length_nil, List.replicate, List.append_nil, List.nil_append, List.cons_append, List.getElem?_cons_zero, List.getElem?_cons_succ, List.set_cons_zero, List.set_cons_succ, Nat.reduceAdd, Nat.reduceSub, if_true, if_false, ite_true, ite_false, Bool.not_true, Bool.not_false, Bool.and_true, Bool.and_false, Bool.false_eq_true, reduceIte, fin_same, finE_same, fin_new, atI_0, atI_1, atI_2, eqW_ofs, look_ofs, look_nil, dspC, newDc, inW, Option.isSome_some, Option.isSome_none, itM, forM, items_dl, items_dt, methL, methD, arg0, arg1, arg2, appendW, popW, listW, get_new, set_new, isLst_new, pow109, String.reduceBEq, String.reduceEq, Bool.false_or, Bool.true_or, Bool.or_false, Bool.or_true, hw, eqW_bl, beq_self_eq_true, Bool.false_and]
/-- a first tuple that is not the ins -/
theorem holds_no (w : W) (st : Store) (P : Prg) (n : Str) (b : Blk) (k0 : List Kd) (L : List (List Kd)) (hw : asD st w = some (.dct (encP P))) (hb : lookA n P = some b) (hne : k0 ≠ b.ins) :
    s_p_holds [w, .d (.str n), .d (.lst (encKK (k0 :: L)))] st = .ok (.d (.bl false)) st := by
  have hx : w.isExc = false := noExc_of hw
  have hlk : look n (encP P) = some (.tup [.tup (encK b.ins), .tup (encK b.outs), .lst (encR b.rows)]) := by rw [lookP, hb]; rfl
  have hlL : ((encKK (k0 :: L)).length : Int) = ((k0 :: L).length : Int) := by rw [List.length_map]
  have hlR : ((encR b.rows).length : Int) = (b.rows.length : Int) := by rw [List.length_map]
  have a0 : atI (encKK (k0 :: L)) 0 = some (.tup (encK k0)) := atI_0 _ _
  unfold s_p_holds b_p_holds
  refine (fnM_ret rfl ?_).trans (fin_same _ _)
  refine (seq_nx (e := [some w, some (.d (.str n)), some (.d (.lst (encKK (k0 :: L)))), some (.d (.tup (encK b.ins))), some (.d (.tup (encK b.outs))), some (.d (.lst (encR b.rows))), none]) (s := st) (by simp only [szs, fnM, rawM, seqM, ifM, tvM, truM, binM, unM, appM, consA, nilA, varM, conM, retM, retN, asgM, expM, raiseM, passS, callF, app1, app2, noExc, isExc_d, isExc_c, bindS_ok, bindS_err, bindS_stuck, Res.bind_ok, Res.bind_err, Res.bind_stuck, onBl_bl, andT, orT, notT, andV, orV, notV, tupM, lstM, toDs, toD, asD_d, asD_new, frzW_d, newT, newL, slM, slW, someO, noneO, ixW, addW, subW, mulW, modW, cmpW, negW, lenW, intW, tabW, isNonB, isNonW, isNon_d, List.map_cons, List.map_nil, List.length_cons, List.length_nil, List.replicate, List.append_nil, List.nil_append, List.cons_append, List.getElem?_cons_zero, List.getElem?_cons_succ, List.set_cons_zero, List.set_cons_succ, Nat.reduceAdd, Nat.reduceSub, if_true, if_false, ite_true, ite_false, Bool.not_true, Bool.not_false, Bool.and_true, Bool.and_false, Bool.false_eq_true, reduceIte, fin_same, finE_same, fin_new, atI_0, atI_1, atI_2, eqW_ofs, look_ofs, look_nil, dspC, newDc, inW, Option.isSome_some, Option.isSome_none, itM, forM, items_dl, items_dt, methL, methD, arg0, arg1, arg2, appendW, popW, listW, get_new, set_new, isLst_new, pow109, String.reduceBEq, String.reduceEq, Bool.false_or, Bool.true_or, Bool.or_false, Bool.or_true, asgTM, hw, hlk, sets])).trans (seq_ret ((if_t (s := st) ?_).trans (by simp only [szs, fnM, rawM, seqM, ifM, tvM, truM, binM, unM, appM, consA, nilA, varM, conM, retM, retN, asgM, expM, raiseM, passS, callF, app1, app2, noExc, isExc_d, isExc_c, bindS_ok, bindS_err, bindS_stuck, Res.bind_ok, Res.bind_err, Res.bind_stuck, onBl_bl, andT, orT, notT, andV, orV, notV, tupM, lstM, toDs, toD, asD_d, asD_new, frzW_d, newT, newL, slM, slW, someO, noneO, ixW, addW, subW, mulW, modW, cmpW, negW, lenW, intW, tabW, isNonB, isNonW, isNon_d, List.map_cons, List.map_nil, List.length_cons, List.length_nil, List.replicate, List.append_nil, List.nil_append, List.cons_append, List.getElem?_cons_zero, List.getElem?_cons_succ, List.set_cons_zero, List.set_cons_succ, Nat.reduceAdd, Nat.reduceSub, if_true, if_false, ite_true, ite_false, Bool.not_true, Bool.not_false, Bool.and_true, Bool.and_false, Bool.false_eq_true, reduceIte, fin_same, finE_same, fin_new, atI_0, atI_1, atI_2, eqW_ofs, look_ofs, look_nil, dspC, newDc, inW, Option.isSome_some, Option.isSome_none, itM, forM, items_dl, items_dt, methL, methD, arg0, arg1, arg2, appendW, popW, listW, get_new, set_new, isLst_new, pow109, String.reduceBEq, String.reduceEq, Bool.false_or, Bool.true_or, Bool.or_false, Bool.or_true])))
  by_cases h1 : ((k0 :: L).length : Int) = (b.rows.length : Int) + 1
  · have h1b : (((k0 :: L).length : Int) == (b.rows.length : Int) + 1) = true := by simpa using h1
    simp only [orT, tvM, binM, appM, app1, consA, nilA, varM, conM, List.getElem?_cons_zero, List.getElem?_cons_succ, Res.bind_ok, lenW, asD_d, hlL, hlR, addW, eqW_int, h1b, if_true, Bool.not_true, onBl_bl, Bool.false_eq_true, if_false, ixW, a0, eqW_K, hne, decide_false, Bool.not_false]
  · have h1b : (((k0 :: L).length : Int) == (b.rows.length : Int) + 1) = false := by simpa using h1
    simp only [orT, tvM, binM, appM, app1, consA, nilA, varM, conM, List.getElem?_cons_zero, List.getElem?_cons_succ, Res.bind_ok, lenW, asD_d, hlL, hlR, addW, eqW_int, h1b, if_true, Bool.not_false, onBl_bl]
theorem law_k05_ok (ns : List Int) : s_law_k05 [.d (.scr ns)] [] = .ok (.d (.bl true)) [] := by
  obtain ⟨way, w0, w1, ew⟩ := draw0 ns 0 8 [] (by omega) (by omega) (by decide)
  obtain ⟨P0, t1, hP0, q1, q2, ep⟩ := good_program_ok ns 0 1 [tc 1] (by simp) (by omega) (by omega)
  have ep' : s_good_program [.d (.scr ns), .c 0] [tc (0 + 1)] = .ok (.c 1) [tc t1, .dct (encP P0)] := ep
  have hlo := hP0.lo
  have hhi := hP0.hi
  let N : List Str := P0.map (·.1)
  have hNl : N.length = P0.length := List.length_map _
  have hlN : ((encS N).length : Int) = (P0.length : Int) := by rw [List.length_map, hNl]
  have hpos : (0 : Int) < (P0.length : Int) := by omega
  have hzN : (encS N).length ≤ sizeLine := small (by rw [List.length_map]; omega)
  have hN : ((encP P0).map fun p => D.str p.1) = encS N := names_P P0
  have asd0 : ∀ t, asD (KS (encP P0) t []) (.c 1) = some (.dct (encP P0)) := fun _ => rfl
  obtain ⟨a, a0, a1, ea⟩ := drawK ns (encP P0) [] t1 1000 (by omega) (by omega) (by decide)
  obtain ⟨n0, hn0, en0⟩ := pick_ok N a (by omega)
  rw [hNl] at en0
  -- the program and the name that are looked at
  obtain ⟨P, n, b, t, hP, hb, t0, tt, pre⟩ : ∃ (P : Prg) (n : Str) (b : Blk) (t : Int), SomeP P ∧ lookA n P = some b ∧ 0 ≤ t ∧ t ≤ 30000 ∧ ∀ rest : MS,
      seqM (asgM 1 (lstM true (consA (conM (.int 0)) nilA)))
      (seqM (asgM 2 (callF s_draw (consA (varM 0) (consA (varM 1) (consA (conM (.int 8)) nilA)))))
      (seqM (asgM 3 (callF s_good_program (consA (varM 0) (consA (varM 1) nilA))))
      (seqM (asgM 4 (appM (app1 (listW false)) (consA (varM 3) nilA)))
      (seqM (asgM 5 (binM ixW (varM 4) (binM modW (callF s_draw (consA (varM 0) (consA (varM 1) (consA (conM (.int 1000)) nilA)))) (appM (app1 lenW) (consA (varM 4) nilA)))))
      (seqM (ifM (tvM (binM ltW (varM 2) (conM (.int 3))))
      (asgM 5 (callF s_spoilt (consA (varM 0) (consA (varM 1) (consA (varM 3) nilA)))))
      passS) rest))))) [some (.d (.scr ns)), none, none, none, none, none, none, none, none, none, none, none, none, none, none, none] []
      = rest [some (.d (.scr ns)), some (.c 0), some (.d (.int way)), some (.c 1), some (.d (.lst (encS N))), some (.d (.str n)), none, none, none, none, none, none, none, none, none, none] (KS (encP P) t []) := by
    have p5 : ∀ rest : MS, seqM (asgM 1 (lstM true (consA (conM (.int 0)) nilA)))
        (seqM (asgM 2 (callF s_draw (consA (varM 0) (consA (varM 1) (consA (conM (.int 8)) nilA)))))
        (seqM (asgM 3 (callF s_good_program (consA (varM 0) (consA (varM 1) nilA))))
        (seqM (asgM 4 (appM (app1 (listW false)) (consA (varM 3) nilA)))
        (seqM (asgM 5 (binM ixW (varM 4) (binM modW (callF s_draw (consA (varM 0) (consA (varM 1) (consA (conM (.int 1000)) nilA)))) (appM (app1 lenW) (consA (varM 4) nilA))))) rest)))) [some (.d (.scr ns)), none, none, none, none, none, none, none, none, none, none, none, none, none, none, none] []
        = rest [some (.d (.scr ns)), some (.c 0), some (.d (.int way)), some (.c 1), some (.d (.lst (encS N))), some (.d (.str n0)), none, none, none, none, none, none, none, none, none, none] (KS (encP P0) (t1 + 1) []) := fun rest => by
      refine (seq_nx (e := [some (.d (.scr ns)), some (.c 0), none, none, none, none, none, none, none, none, none, none, none, none, none, none]) (s := [tc 0]) (by simp only [szs, fnM, rawM, seqM, ifM, tvM, truM, binM, unM, appM, consA, nilA, varM, conM, retM, retN, asgM, expM, raiseM, passS, callF, app1, app2, noExc, isExc_d, isExc_c, bindS_ok, bindS_err, bindS_stuck, Res.bind_ok, Res.bind_err, Res.bind_stuck, onBl_bl, andT, orT, notT, andV, orV, notV, tupM, lstM, toDs, toD, asD_d, asD_new, frzW_d, newT, newL, slM, slW, someO, noneO, ixW, addW, subW, mulW, modW, cmpW, negW, lenW, intW, tabW, isNonB, isNonW, isNon_d, List.map_cons, List.map_nil, List.length_cons, List.length_nil, List.replicate, List.append_nil, List.nil_append, List.cons_append, List.getElem?_cons_zero, List.getElem?_cons_succ, List.set_cons_zero, List.set_cons_succ, Nat.reduceAdd, Nat.reduceSub, if_true, if_false, ite_true, ite_false, Bool.not_true, Bool.not_false, Bool.and_true, Bool.and_false, Bool.false_eq_true, reduceIte, fin_same, finE_same, fin_new, atI_0, atI_1, atI_2, eqW_ofs, look_ofs, look_nil, dspC, newDc, inW, Option.isSome_some, Option.isSome_none, itM, forM, items_dl, items_dt, methL, methD, arg0, arg1, arg2, appendW, popW, listW, get_new, set_new, isLst_new, pow109, String.reduceBEq, String.reduceEq, Bool.false_or, Bool.true_or, Bool.or_false, Bool.or_true])).trans ?_
      refine (seq_nx (e := [some (.d (.scr ns)), some (.c 0), some (.d (.int way)), none, none, none, none, none, none, none, none, none, none, none, none, none]) (s := [tc (0 + 1)]) (by simp only [szs, fnM, rawM, seqM, ifM, tvM, truM, binM, unM, appM, consA, nilA, varM, conM, retM, retN, asgM, expM, raiseM, passS, callF, app1, app2, noExc, isExc_d, isExc_c, bindS_ok, bindS_err, bindS_stuck, Res.bind_ok, Res.bind_err, Res.bind_stuck, onBl_bl, andT, orT, notT, andV, orV, notV, tupM, lstM, toDs, toD, asD_d, asD_new, frzW_d, newT, newL, slM, slW, someO, noneO, ixW, addW, subW, mulW, modW, cmpW, negW, lenW, intW, tabW, isNonB, isNonW, isNon_d, List.map_cons, List.map_nil, List.length_cons, List.length_nil, List.replicate, List.append_nil, List.nil_append, List.cons_append, List.getElem?_cons_zero, List.getElem?_cons_succ, List.set_cons_zero, List.set_cons_succ, Nat.reduceAdd, Nat.reduceSub, if_true, if_false, ite_true, ite_false, Bool.not_true, Bool.not_false, Bool.and_true, Bool.and_false, Bool.false_eq_true, reduceIte, fin_same, finE_same, fin_new, atI_0, atI_1, atI_2, eqW_ofs, look_ofs, look_nil, dspC, newDc, inW, Option.isSome_some, Option.isSome_none, itM, forM, items_dl, items_dt, methL, methD, arg0, arg1, arg2, appendW, popW, listW, get_new, set_new, isLst_new, pow109, String.reduceBEq, String.reduceEq, Bool.false_or, Bool.true_or, Bool.or_false, Bool.or_true, ew])).trans ?_
      refine (seq_nx (e := [some (.d (.scr ns)), some (.c 0), some (.d (.int way)), some (.c 1), none, none, none, none, none, none, none, none, none, none, none, none]) (s := KS (encP P0) t1 []) (by simp only [szs, fnM, rawM, seqM, ifM, tvM, truM, binM, unM, appM, consA, nilA, varM, conM, retM, retN, asgM, expM, raiseM, passS, callF, app1, app2, noExc, isExc_d, isExc_c, bindS_ok, bindS_err, bindS_stuck, Res.bind_ok, Res.bind_err, Res.bind_stuck, onBl_bl, andT, orT, notT, andV, orV, notV, tupM, lstM, toDs, toD, asD_d, asD_new, frzW_d, newT, newL, slM, slW, someO, noneO, ixW, addW, subW, mulW, modW, cmpW, negW, lenW, intW, tabW, isNonB, isNonW, isNon_d, List.map_cons, List.map_nil, List.length_cons, List.length_nil, List.replicate, List.append_nil, List.nil_append, List.cons_append, List.getElem?_cons_zero, List.getElem?_cons_succ, List.set_cons_zero, List.set_cons_succ, Nat.reduceAdd, Nat.reduceSub, if_true, if_false, ite_true, ite_false, Bool.not_true, Bool.not_false, Bool.and_true, Bool.and_false, Bool.false_eq_true, reduceIte, fin_same, finE_same, fin_new, atI_0, atI_1, atI_2, eqW_ofs, look_ofs, look_nil, dspC, newDc, inW, Option.isSome_some, Option.isSome_none, itM, forM, items_dl, items_dt, methL, methD, arg0, arg1, arg2, appendW, popW, listW, get_new, set_new, isLst_new, pow109, String.reduceBEq, String.reduceEq, Bool.false_or, Bool.true_or, Bool.or_false, Bool.or_true, ep'])).trans ?_
      refine (seq_nx (e := [some (.d (.scr ns)), some (.c 0), some (.d (.int way)), some (.c 1), some (.d (.lst (encS N))), none, none, none, none, none, none, none, none, none, none, none]) (s := KS (encP P0) t1 []) (by simp only [szs, fnM, rawM, seqM, ifM, tvM, truM, binM, unM, appM, consA, nilA, varM, conM, retM, retN, asgM, expM, raiseM, passS, callF, app1, app2, noExc, isExc_d, isExc_c, bindS_ok, bindS_err, bindS_stuck, Res.bind_ok, Res.bind_err, Res.bind_stuck, onBl_bl, andT, orT, notT, andV, orV, notV, tupM, lstM, toDs, toD, asD_d, asD_new, frzW_d, newT, newL, slM, slW, someO, noneO, ixW, addW, subW, mulW, modW, cmpW, negW, lenW, intW, tabW, isNonB, isNonW, isNon_d, List.map_cons, List.map_nil, List.length_cons, List.length_nil, List.replicate, List.append_nil, List.nil_append, List.cons_append, List.getElem?_cons_zero, List.getElem?_cons_succ, List.set_cons_zero, List.set_cons_succ, Nat.reduceAdd, Nat.reduceSub, if_true, if_false, ite_true, ite_false, Bool.not_true, Bool.not_false, Bool.and_true, Bool.and_false, Bool.false_eq_true, reduceIte, fin_same, finE_same, fin_new, atI_0, atI_1, atI_2, eqW_ofs, look_ofs, look_nil, dspC, newDc, inW, Option.isSome_some, Option.isSome_none, itM, forM, items_dl, items_dt, methL, methD, arg0, arg1, arg2, appendW, popW, listW, get_new, set_new, isLst_new, pow109, String.reduceBEq, String.reduceEq, Bool.false_or, Bool.true_or, Bool.or_false, Bool.or_true, asd0, hN, hzN])).trans ?_
      exact seq_nx (by simp only [szs, fnM, rawM, seqM, ifM, tvM, truM, binM, unM, appM, consA, nilA, varM, conM, retM, retN, asgM, expM, raiseM, passS, callF, app1, app2, noExc, isExc_d, isExc_c, bindS_ok, bindS_err, bindS_stuck, Res.bind_ok, Res.bind_err, Res.bind_stuck, onBl_bl, andT, orT, notT, andV, orV, notV, tupM, lstM, toDs, toD, asD_d, asD_new, frzW_d, newT, newL, slM, slW, someO, noneO, ixW, addW, subW, mulW, modW, cmpW, negW, lenW, intW, tabW, isNonB, isNonW, isNon_d, List.map_cons, List.map_nil, List.length_cons, List.length_nil, List.replicate, List.append_nil, List.nil_append, List.cons_append, List.getElem?_cons_zero, List.getElem?_cons_succ, List.set_cons_zero, List.set_cons_succ, Nat.reduceAdd, Nat.reduceSub, if_true, if_false, ite_true, ite_false, Bool.not_true, Bool.not_false, Bool.and_true, Bool.and_false, Bool.false_eq_true, reduceIte, fin_same, finE_same, fin_new, atI_0, atI_1, atI_2, eqW_ofs, look_ofs, look_nil, dspC, newDc, inW, Option.isSome_some, Option.isSome_none, itM, forM, items_dl, items_dt, methL, methD, arg0, arg1, arg2, appendW, popW, listW, get_new, set_new, isLst_new, pow109, String.reduceBEq, String.reduceEq, Bool.false_or, Bool.true_or, Bool.or_false, Bool.or_true, ea, hlN, hpos, en0])
    by_cases h3 : way < 3
    · obtain ⟨P', t', n, p1, p2, p3, p4, p6, e⟩ := spoilt_ok ns (t1 + 1) (by omega) (by omega) P0 hP0.toSome (fun p hp => by have := hP0.rw p hp; omega)
      obtain ⟨q, hq, rfl⟩ := List.mem_map.mp p6
      refine ⟨P', q.1, q.2, t', p1, lookA_of p1.ok.nd hq, by omega, by omega, fun rest => (p5 _).trans (seq_nx ((if_t (s := KS (encP P0) (t1 + 1) []) (by simp only [szs, fnM, rawM, seqM, ifM, tvM, truM, binM, unM, appM, consA, nilA, varM, conM, retM, retN, asgM, expM, raiseM, passS, callF, app1, app2, noExc, isExc_d, isExc_c, bindS_ok, bindS_err, bindS_stuck, Res.bind_ok, Res.bind_err, Res.bind_stuck, onBl_bl, andT, orT, notT, andV, orV, notV, tupM, lstM, toDs, toD, asD_d, asD_new, frzW_d, newT, newL, slM, slW, someO, noneO, ixW, addW, subW, mulW, modW, cmpW, negW, lenW, intW, tabW, isNonB, isNonW, isNon_d, List.map_cons, List.map_nil, List.length_cons, List.length_nil, List.replicate, List.append_nil, List.nil_append, List.cons_append, List.getElem?_cons_zero, List.getElem?_cons_succ, List.set_cons_zero, List.set_cons_succ, Nat.reduceAdd, Nat.reduceSub, if_true, if_false, ite_true, ite_false, Bool.not_true, Bool.not_false, Bool.and_true, Bool.and_false, Bool.false_eq_true, reduceIte, fin_same, finE_same, fin_new, atI_0, atI_1, atI_2, eqW_ofs, look_ofs, look_nil, dspC, newDc, inW, Option.isSome_some, Option.isSome_none, itM, forM, items_dl, items_dt, methL, methD, arg0, arg1, arg2, appendW, popW, listW, get_new, set_new, isLst_new, pow109, String.reduceBEq, String.reduceEq, Bool.false_or, Bool.true_or, Bool.or_false, Bool.or_true, ltW, h3, decide_true])).trans (by simp only [szs, fnM, rawM, seqM, ifM, tvM, truM, binM, unM, appM, consA, nilA, varM, conM, retM, retN, asgM, expM, raiseM, passS, callF, app1, app2, noExc, isExc_d, isExc_c, bindS_ok, bindS_err, bindS_stuck, Res.bind_ok, Res.bind_err, Res.bind_stuck, onBl_bl, andT, orT, notT, andV, orV, notV, tupM, lstM, toDs, toD, asD_d, asD_new, frzW_d, newT, newL, slM, slW, someO, noneO, ixW, addW, subW, mulW, modW, cmpW, negW, lenW, intW, tabW, isNonB, isNonW, isNon_d, List.map_cons, List.map_nil, List.length_cons, List.length_nil, List.replicate, List.append_nil, List.nil_append, List.cons_append, List.getElem?_cons_zero, List.getElem?_cons_succ, List.set_cons_zero, List.set_cons_succ, Nat.reduceAdd, Nat.reduceSub, if_true, if_false, ite_true, ite_false, Bool.not_true, Bool.not_false, Bool.and_true, Bool.and_false, Bool.false_eq_true, reduceIte, fin_same, finE_same, fin_new, atI_0, atI_1, atI_2, eqW_ofs, look_ofs, look_nil, dspC, newDc, inW, Option.isSome_some, Option.isSome_none, itM, forM, items_dl, items_dt, methL, methD, arg0, arg1, arg2, appendW, popW, listW, get_new, set_new, isLst_new, pow109, String.reduceBEq, String.reduceEq, Bool.false_or, Bool.true_or, Bool.or_false, Bool.or_true, e])))⟩
    · have h3' : decide (way < 3) = false := decide_eq_false h3
      obtain ⟨q, hq, e0⟩ := List.mem_map.mp hn0
      refine ⟨P0, n0, q.2, t1 + 1, hP0.toSome, lookA_of hP0.ok.nd (by rw [← e0]; exact hq), by omega, by omega, fun rest => (p5 _).trans (seq_nx (by simp only [szs, fnM, rawM, seqM, ifM, tvM, truM, binM, unM, appM, consA, nilA, varM, conM, retM, retN, asgM, expM, raiseM, passS, callF, app1, app2, noExc, isExc_d, isExc_c, bindS_ok, bindS_err, bindS_stuck, Res.bind_ok, Res.bind_err, Res.bind_stuck, onBl_bl, andT, orT, notT, andV, orV, notV, tupM, lstM, toDs, toD, asD_d, asD_new, frzW_d, newT, newL, slM, slW, someO, noneO, ixW, addW, subW, mulW, modW, cmpW, negW, lenW, intW, tabW, isNonB, isNonW, isNon_d, List.map_cons, List.map_nil, List.length_cons, List.length_nil, List.replicate, List.append_nil, List.nil_append, List.cons_append, List.getElem?_cons_zero, List.getElem?_cons_succ, List.set_cons_zero, List.set_cons_succ, Nat.reduceAdd, Nat.reduceSub, if_true, if_false, ite_true, ite_false, Bool.not_true, Bool.not_false, Bool.and_true, Bool.and_false, Bool.false_eq_true, reduceIte, fin_same, finE_same, fin_new, atI_0, atI_1, atI_2, eqW_ofs, look_ofs, look_nil, dspC, newDc, inW, Option.isSome_some, Option.isSome_none, itM, forM, items_dl, items_dt, methL, methD, arg0, arg1, arg2, appendW, popW, listW, get_new, set_new, isLst_new, pow109, String.reduceBEq, String.reduceEq, Bool.false_or, Bool.true_or, Bool.or_false, Bool.or_true, ltW, h3']))⟩
  have hbo : BlkOk b := hP.ok.bl _ (lookA_mem hb)
  have hsi := hbo.si
  have hso := hbo.so
  have hsr := hbo.sr
  have hlk : look n (encP P) = some (.tup [.tup (encK b.ins), .tup (encK b.outs), .lst (encR b.rows)]) := by rw [lookP, hb]; rfl
  have hPl := hP.hi
  let M := (wayK (telP P) b).1
  let wd := (wayK (telP P) b).2
  have ewk := walked_ok (.c 1) (KS (encP P) t []) P n b rfl hP.ok hb
  have hM1 : M.length ≤ b.rows.length + 1 := way_len _ _
  have hM0 : M ≠ [] := trailK_ne _ _ _
  have hM2 : 1 ≤ M.length := List.length_pos_iff.mpr hM0
  have hMf : Fit 200000 M := fun k hk => by have := trailK_mem (telP P) hP.ok.small b.rows b.ins k hk; omega
  have hzM : (encKK M).length ≤ sizeLine := small (by rw [List.length_map]; omega)
  have hMe : wd = "" → M.length = b.rows.length + 1 := fun h => (holdsK_iff.mpr ⟨h, rfl⟩).1
  have hlR : ((encR b.rows).length : Int) = (b.rows.length : Int) := by rw [List.length_map]
  unfold s_law_k05
  -- the list of kinds, made long
  obtain ⟨m', env', st', eW, ⟨L, l1, l2, l3, l4, l5, l6, l7⟩, _⟩ := while_inv (c := (andT (tvM (binM (eqW true) (varM 7) (conM (.str "")))) (tvM (binM ltW (appM (app1 lenW) (consA (varM 8) nilA)) (binM (addW false) (appM (app1 lenW) (consA (binM ixW (binM ixW (varM 3) (varM 5)) (conM (.int 2))) nilA)) (conM (.int 1)))))))
    (b := (expM (methL (arg1 appendW) (varM 8) (consA (binM ixW (binM ixW (varM 3) (varM 5)) (conM (.int 1))) nilA))))
    (fun m env s => ∃ L : List (List Kd), Fit 200000 L ∧ 1 ≤ L.length ∧ L.length ≤ b.rows.length + 1 ∧ (wd = "" → L = M) ∧ m = b.rows.length + 1 - L.length ∧ env = E5 ns way N n M wd 2 none none none none none none ∧ s = tc t :: [.dct (encP P), .lst (encKK L)])
    (fun m env s ⟨L, l1, l2, l3, l4, l5, l6, l7⟩ => by
      subst l6 l7
      have asd1 : asD (tc t :: [Cell.dct (encP P), Cell.lst (encKK L)]) (.c 1) = some (.dct (encP P)) := rfl
      have asd2 : asD (tc t :: [Cell.dct (encP P), Cell.lst (encKK L)]) (.c 2) = some (.lst (encKK L)) := rfl
      have isl : isLst (.c 2) (tc t :: [Cell.dct (encP P), Cell.lst (encKK L)]) = true := rfl
      have hlL : ((encKK L).length : Int) = (L.length : Int) := by rw [List.length_map]
      by_cases hw : wd = ""
      · have hwb : (wd == "") = true := by rw [hw]; rfl
        exact ⟨false, by simp only [szs, fnM, rawM, seqM, ifM, tvM, truM, binM, unM, appM, consA, nilA, varM, conM, retM, retN, asgM, expM, raiseM, passS, callF, app1, app2, noExc, isExc_d, isExc_c, bindS_ok, bindS_err, bindS_stuck, Res.bind_ok, Res.bind_err, Res.bind_stuck, onBl_bl, andT, orT, notT, andV, orV, notV, tupM, lstM, toDs, toD, asD_d, asD_new, frzW_d, newT, newL, slM, slW, someO, noneO, ixW, addW, subW, mulW, modW, cmpW, negW, lenW, intW, tabW, isNonB, isNonW, isNon_d, List.map_cons, List.map_nil, List.length_cons, List.length_nil, List.replicate, List.append_nil, List.nil_append, List.cons_append, List.getElem?_cons_zero, List.getElem?_cons_succ, List.set_cons_zero, List.set_cons_succ, Nat.reduceAdd, Nat.reduceSub, if_true, if_false, ite_true, ite_false, Bool.not_true, Bool.not_false, Bool.and_true, Bool.and_false, Bool.false_eq_true, reduceIte, fin_same, finE_same, fin_new, atI_0, atI_1, atI_2, eqW_ofs, look_ofs, look_nil, dspC, newDc, inW, Option.isSome_some, Option.isSome_none, itM, forM, items_dl, items_dt, methL, methD, arg0, arg1, arg2, appendW, popW, listW, get_new, set_new, isLst_new, pow109, String.reduceBEq, String.reduceEq, Bool.false_or, Bool.true_or, Bool.or_false, Bool.or_true, hwb], fun h => by cases h⟩
      · have hwb : (wd == "") = false := by simpa using hw
        refine ⟨decide ((L.length : Int) < (b.rows.length : Int) + 1), by simp only [szs, fnM, rawM, seqM, ifM, tvM, truM, binM, unM, appM, consA, nilA, varM, conM, retM, retN, asgM, expM, raiseM, passS, callF, app1, app2, noExc, isExc_d, isExc_c, bindS_ok, bindS_err, bindS_stuck, Res.bind_ok, Res.bind_err, Res.bind_stuck, onBl_bl, andT, orT, notT, andV, orV, notV, tupM, lstM, toDs, toD, asD_d, asD_new, frzW_d, newT, newL, slM, slW, someO, noneO, ixW, addW, subW, mulW, modW, cmpW, negW, lenW, intW, tabW, isNonB, isNonW, isNon_d, List.map_cons, List.map_nil, List.length_cons, List.length_nil, List.replicate, List.append_nil, List.nil_append, List.cons_append, List.getElem?_cons_zero, List.getElem?_cons_succ, List.set_cons_zero, List.set_cons_succ, Nat.reduceAdd, Nat.reduceSub, if_true, if_false, ite_true, ite_false, Bool.not_true, Bool.not_false, Bool.and_true, Bool.and_false, Bool.false_eq_true, reduceIte, fin_same, finE_same, fin_new, atI_0, atI_1, atI_2, eqW_ofs, look_ofs, look_nil, dspC, newDc, inW, Option.isSome_some, Option.isSome_none, itM, forM, items_dl, items_dt, methL, methD, arg0, arg1, arg2, appendW, popW, listW, get_new, set_new, isLst_new, pow109, String.reduceBEq, String.reduceEq, Bool.false_or, Bool.true_or, Bool.or_false, Bool.or_true, hwb, asd1, asd2, hlk, ltW, hlL, hlR], fun h => ?_⟩
        have hlt : (L.length : Int) < (b.rows.length : Int) + 1 := of_decide_eq_true h
        have hzL : (encKK L).length < sizeLine := lt_line (by rw [List.length_map]; omega)
        have happ : encKK L ++ [D.tup (encK b.outs)] = encKK (L ++ [b.outs]) := by simp
        refine ⟨b.rows.length + 1 - (L.length + 1), _, _, by omega, ?_, L ++ [b.outs], l1.app (Fit.one (by omega)), by rw [List.length_append]; omega, by rw [List.length_append, List.length_singleton]; omega, fun h => absurd h hw, by rw [List.length_append, List.length_singleton], rfl, rfl⟩
        simp only [szs, fnM, rawM, seqM, ifM, tvM, truM, binM, unM, appM, consA, nilA, varM, conM, retM, retN, asgM, expM, raiseM, passS, callF, app1, app2, noExc, isExc_d, isExc_c, bindS_ok, bindS_err, bindS_stuck, Res.bind_ok, Res.bind_err, Res.bind_stuck, onBl_bl, andT, orT, notT, andV, orV, notV, tupM, lstM, toDs, toD, asD_d, asD_new, frzW_d, newT, newL, slM, slW, someO, noneO, ixW, addW, subW, mulW, modW, cmpW, negW, lenW, intW, tabW, isNonB, isNonW, isNon_d, List.map_cons, List.map_nil, List.length_cons, List.length_nil, List.replicate, List.append_nil, List.nil_append, List.cons_append, List.getElem?_cons_zero, List.getElem?_cons_succ, List.set_cons_zero, List.set_cons_succ, Nat.reduceAdd, Nat.reduceSub, if_true, if_false, ite_true, ite_false, Bool.not_true, Bool.not_false, Bool.and_true, Bool.and_false, Bool.false_eq_true, reduceIte, fin_same, finE_same, fin_new, atI_0, atI_1, atI_2, eqW_ofs, look_ofs, look_nil, dspC, newDc, inW, Option.isSome_some, Option.isSome_none, itM, forM, items_dl, items_dt, methL, methD, arg0, arg1, arg2, appendW, popW, listW, get_new, set_new, isLst_new, pow109, String.reduceBEq, String.reduceEq, Bool.false_or, Bool.true_or, Bool.or_false, Bool.or_true, isl, asd1, hlk, hzL, happ])
    1000000 (b.rows.length + 1 - M.length) (E5 ns way N n M wd 2 none none none none none none) (tc t :: [.dct (encP P), .lst (encKK M)])
    ⟨M, hMf, hM2, hM1, fun _ => rfl, rfl, rfl, rfl⟩ (by omega)
  subst l6 l7
  -- the last one, put anew
  obtain ⟨L1, t2, f1, f2, f3, f4, f5, f6, eD⟩ : ∃ (L1 : List (List Kd)) (t2 : Int), Fit 200000 L1 ∧ 1 ≤ L1.length ∧ L1.length ≤ b.rows.length + 1 ∧ (wd = "" → L1 = M) ∧ t ≤ t2 ∧ t2 ≤ t + 1 ∧
      (ifM (andT (tvM (binM (eqW false) (varM 7) (conM (.str "end")))) (tvM (binM (eqW false) (callF s_draw (consA (varM 0) (consA (varM 1) (consA (conM (.int 2)) nilA)))) (conM (.int 0)))))
        (setLM (varM 8) (binM subW (appM (app1 lenW) (consA (varM 8) nilA)) (conM (.int 1))) (binM ixW (binM ixW (varM 3) (varM 5)) (conM (.int 1))))
        passS) (E5 ns way N n M wd 2 none none none none none none) (tc t :: [.dct (encP P), .lst (encKK L)]) = .nx (E5 ns way N n M wd 2 none none none none none none) (tc t2 :: [.dct (encP P), .lst (encKK L1)]) := by
    by_cases he : wd = "end"
    · have heb : (wd == "end") = true := by rw [he]; rfl
      obtain ⟨c, c0, c1, ec⟩ := draw0 ns t 2 [.dct (encP P), .lst (encKK L)] (by omega) (by omega) (by decide)
      by_cases hc : c = 0
      · subst hc
        have asd1 : asD (tc (t + 1) :: [Cell.dct (encP P), Cell.lst (encKK L)]) (.c 1) = some (.dct (encP P)) := rfl
        have asd2 : asD (tc (t + 1) :: [Cell.dct (encP P), Cell.lst (encKK L)]) (.c 2) = some (.lst (encKK L)) := rfl
        have hlL : ((encKK L).length : Int) = (L.length : Int) := by rw [List.length_map]
        have hix : ixN (encKK L).length ((L.length : Int) - 1) = some (L.length - 1) := by
          unfold ixN
          rw [if_pos (by omega), if_pos (by rw [List.length_map]; omega)]
          congr 1; omega
        have hset : (encKK L).set (L.length - 1) (.tup (encK b.outs)) = encKK (L.set (L.length - 1) b.outs) := by simp [List.map_set]
        refine ⟨L.set (L.length - 1) b.outs, t + 1, fun k hk => ?_, by rw [List.length_set]; exact l2, by rw [List.length_set]; exact l3, fun h => by rw [he] at h; exact absurd h (by decide), by omega, by omega, ?_⟩
        · rcases List.mem_or_eq_of_mem_set hk with h | h
          · exact l1 k h
          · subst h; omega
        · refine (if_t (s := tc (t + 1) :: [.dct (encP P), .lst (encKK L)]) (by simp only [szs, fnM, rawM, seqM, ifM, tvM, truM, binM, unM, appM, consA, nilA, varM, conM, retM, retN, asgM, expM, raiseM, passS, callF, app1, app2, noExc, isExc_d, isExc_c, bindS_ok, bindS_err, bindS_stuck, Res.bind_ok, Res.bind_err, Res.bind_stuck, onBl_bl, andT, orT, notT, andV, orV, notV, tupM, lstM, toDs, toD, asD_d, asD_new, frzW_d, newT, newL, slM, slW, someO, noneO, ixW, addW, subW, mulW, modW, cmpW, negW, lenW, intW, tabW, isNonB, isNonW, isNon_d, List.map_cons, List.map_nil, List.length_cons, List.length_nil, List.replicate, List.append_nil, List.nil_append, List.cons_append, List.getElem?_cons_zero, List.getElem?_cons_succ, List.set_cons_zero, List.set_cons_succ, Nat.reduceAdd, Nat.reduceSub, if_true, if_false, ite_true, ite_false, Bool.not_true, Bool.not_false, Bool.and_true, Bool.and_false, Bool.false_eq_true, reduceIte, fin_same, finE_same, fin_new, atI_0, atI_1, atI_2, eqW_ofs, look_ofs, look_nil, dspC, newDc, inW, Option.isSome_some, Option.isSome_none, itM, forM, items_dl, items_dt, methL, methD, arg0, arg1, arg2, appendW, popW, listW, get_new, set_new, isLst_new, pow109, String.reduceBEq, String.reduceEq, Bool.false_or, Bool.true_or, Bool.or_false, Bool.or_true, heb, ec, eqW_int, beq_self_eq_true])).trans ?_
          simp only [szs, fnM, rawM, seqM, ifM, tvM, truM, binM, unM, appM, consA, nilA, varM, conM, retM, retN, asgM, expM, raiseM, passS, callF, app1, app2, noExc, isExc_d, isExc_c, bindS_ok, bindS_err, bindS_stuck, Res.bind_ok, Res.bind_err, Res.bind_stuck, onBl_bl, andT, orT, notT, andV, orV, notV, tupM, lstM, toDs, toD, asD_d, asD_new, frzW_d, newT, newL, slM, slW, someO, noneO, ixW, addW, subW, mulW, modW, cmpW, negW, lenW, intW, tabW, isNonB, isNonW, isNon_d, List.map_cons, List.map_nil, List.length_cons, List.length_nil, List.replicate, List.append_nil, List.nil_append, List.cons_append, List.getElem?_cons_zero, List.getElem?_cons_succ, List.set_cons_zero, List.set_cons_succ, Nat.reduceAdd, Nat.reduceSub, if_true, if_false, ite_true, ite_false, Bool.not_true, Bool.not_false, Bool.and_true, Bool.and_false, Bool.false_eq_true, reduceIte, fin_same, finE_same, fin_new, atI_0, atI_1, atI_2, eqW_ofs, look_ofs, look_nil, dspC, newDc, inW, Option.isSome_some, Option.isSome_none, itM, forM, items_dl, items_dt, methL, methD, arg0, arg1, arg2, appendW, popW, listW, get_new, set_new, isLst_new, pow109, String.reduceBEq, String.reduceEq, Bool.false_or, Bool.true_or, Bool.or_false, Bool.or_true, setLM, asd1, asd2, hlk, hlL, hix, hset]
      · have hc' : (c == 0) = false := by simpa using hc
        exact ⟨L, t + 1, l1, l2, l3, l4, by omega, by omega, by simp only [szs, fnM, rawM, seqM, ifM, tvM, truM, binM, unM, appM, consA, nilA, varM, conM, retM, retN, asgM, expM, raiseM, passS, callF, app1, app2, noExc, isExc_d, isExc_c, bindS_ok, bindS_err, bindS_stuck, Res.bind_ok, Res.bind_err, Res.bind_stuck, onBl_bl, andT, orT, notT, andV, orV, notV, tupM, lstM, toDs, toD, asD_d, asD_new, frzW_d, newT, newL, slM, slW, someO, noneO, ixW, addW, subW, mulW, modW, cmpW, negW, lenW, intW, tabW, isNonB, isNonW, isNon_d, List.map_cons, List.map_nil, List.length_cons, List.length_nil, List.replicate, List.append_nil, List.nil_append, List.cons_append, List.getElem?_cons_zero, List.getElem?_cons_succ, List.set_cons_zero, List.set_cons_succ, Nat.reduceAdd, Nat.reduceSub, if_true, if_false, ite_true, ite_false, Bool.not_true, Bool.not_false, Bool.and_true, Bool.and_false, Bool.false_eq_true, reduceIte, fin_same, finE_same, fin_new, atI_0, atI_1, atI_2, eqW_ofs, look_ofs, look_nil, dspC, newDc, inW, Option.isSome_some, Option.isSome_none, itM, forM, items_dl, items_dt, methL, methD, arg0, arg1, arg2, appendW, popW, listW, get_new, set_new, isLst_new, pow109, String.reduceBEq, String.reduceEq, Bool.false_or, Bool.true_or, Bool.or_false, Bool.or_true, heb, ec, eqW_int, hc']⟩
    · have heb : (wd == "end") = false := by simpa using he
      exact ⟨L, t, l1, l2, l3, l4, by omega, by omega, by simp only [szs, fnM, rawM, seqM, ifM, tvM, truM, binM, unM, appM, consA, nilA, varM, conM, retM, retN, asgM, expM, raiseM, passS, callF, app1, app2, noExc, isExc_d, isExc_c, bindS_ok, bindS_err, bindS_stuck, Res.bind_ok, Res.bind_err, Res.bind_stuck, onBl_bl, andT, orT, notT, andV, orV, notV, tupM, lstM, toDs, toD, asD_d, asD_new, frzW_d, newT, newL, slM, slW, someO, noneO, ixW, addW, subW, mulW, modW, cmpW, negW, lenW, intW, tabW, isNonB, isNonW, isNon_d, List.map_cons, List.map_nil, List.length_cons, List.length_nil, List.replicate, List.append_nil, List.nil_append, List.cons_append, List.getElem?_cons_zero, List.getElem?_cons_succ, List.set_cons_zero, List.set_cons_succ, Nat.reduceAdd, Nat.reduceSub, if_true, if_false, ite_true, ite_false, Bool.not_true, Bool.not_false, Bool.and_true, Bool.and_false, Bool.false_eq_true, reduceIte, fin_same, finE_same, fin_new, atI_0, atI_1, atI_2, eqW_ofs, look_ofs, look_nil, dspC, newDc, inW, Option.isSome_some, Option.isSome_none, itM, forM, items_dl, items_dt, methL, methD, arg0, arg1, arg2, appendW, popW, listW, get_new, set_new, isLst_new, pow109, String.reduceBEq, String.reduceEq, Bool.false_or, Bool.true_or, Bool.or_false, Bool.or_true, heb]⟩
  obtain ⟨L2, t3, j, e, g1, g2, g3, g4, g5, g6, eF⟩ := forged_ok ns [.dct (encP P), .lst (encKK L1)] 2 (by simp) L1 200000 (by omega) f1 f2 (by omega) (fun _ => rfl) t2 (by omega) (by omega)
  let S : Int → Store := fun t => tc t :: ([.dct (encP P), .lst (encKK L1)] ++ e)
  have hcl2 : L2.length ≤ 500000 := by omega
  have hpre : ∀ rest : MS, b_law_k05 [some (.d (.scr ns)), none, none, none, none, none, none, none, none, none, none, none, none, none, none, none] [] = seqM (ifM (andT (tvM (binM (eqW false) (varM 7) (conM (.str "")))) (tvM (binM (eqW false) (callF s_draw (consA (varM 0) (consA (varM 1) (consA (conM (.int 6)) nilA)))) (conM (.int 0)))))
      (seqM (asgTM [9, 10, 11] (binM ixW (varM 3) (varM 5)))
      (seqM (setDM (varM 3) (varM 5) (tupM (consA (varM 9) (consA (binM (addW false) (tupM (consA (conM (.str "text")) nilA)) (varM 10)) (consA (varM 11) nilA)))))
      (seqM (asgM 8 (lcM true (itM (varM 6)) 15 yesT (binM (addW false) (tupM (consA (conM (.str "text")) nilA)) (varM 15))))
      (asgM 7 (conM (.str "end"))))))
      passS) tail5 (E5 ns way N n M wd j none none none none none none) (S t3) := fun _ => by
    unfold b_law_k05
    refine (pre _).trans ?_
    refine (seq_nx (e := [some (.d (.scr ns)), some (.c 0), some (.d (.int way)), some (.c 1), some (.d (.lst (encS N))), some (.d (.str n)), some (.d (.lst (encKK M))), some (.d (.str (Str.ofString wd))), none, none, none, none, none, none, none, none]) (s := KS (encP P) t []) (by simp only [szs, fnM, rawM, seqM, ifM, tvM, truM, binM, unM, appM, consA, nilA, varM, conM, retM, retN, asgM, expM, raiseM, passS, callF, app1, app2, noExc, isExc_d, isExc_c, bindS_ok, bindS_err, bindS_stuck, Res.bind_ok, Res.bind_err, Res.bind_stuck, onBl_bl, andT, orT, notT, andV, orV, notV, tupM, lstM, toDs, toD, asD_d, asD_new, frzW_d, newT, newL, slM, slW, someO, noneO, ixW, addW, subW, mulW, modW, cmpW, negW, lenW, intW, tabW, isNonB, isNonW, isNon_d, List.map_cons, List.map_nil, List.length_cons, List.length_nil, List.replicate, List.append_nil, List.nil_append, List.cons_append, List.getElem?_cons_zero, List.getElem?_cons_succ, List.set_cons_zero, List.set_cons_succ, Nat.reduceAdd, Nat.reduceSub, if_true, if_false, ite_true, ite_false, Bool.not_true, Bool.not_false, Bool.and_true, Bool.and_false, Bool.false_eq_true, reduceIte, fin_same, finE_same, fin_new, atI_0, atI_1, atI_2, eqW_ofs, look_ofs, look_nil, dspC, newDc, inW, Option.isSome_some, Option.isSome_none, itM, forM, items_dl, items_dt, methL, methD, arg0, arg1, arg2, appendW, popW, listW, get_new, set_new, isLst_new, pow109, String.reduceBEq, String.reduceEq, Bool.false_or, Bool.true_or, Bool.or_false, Bool.or_true, asgTM, ewk, sets]; rfl)).trans ?_
    refine (seq_nx (e := E5 ns way N n M wd 2 none none none none none none) (s := tc t :: [.dct (encP P), .lst (encKK M)]) (by simp only [szs, fnM, rawM, seqM, ifM, tvM, truM, binM, unM, appM, consA, nilA, varM, conM, retM, retN, asgM, expM, raiseM, passS, callF, app1, app2, noExc, isExc_d, isExc_c, bindS_ok, bindS_err, bindS_stuck, Res.bind_ok, Res.bind_err, Res.bind_stuck, onBl_bl, andT, orT, notT, andV, orV, notV, tupM, lstM, toDs, toD, asD_d, asD_new, frzW_d, newT, newL, slM, slW, someO, noneO, ixW, addW, subW, mulW, modW, cmpW, negW, lenW, intW, tabW, isNonB, isNonW, isNon_d, List.map_cons, List.map_nil, List.length_cons, List.length_nil, List.replicate, List.append_nil, List.nil_append, List.cons_append, List.getElem?_cons_zero, List.getElem?_cons_succ, List.set_cons_zero, List.set_cons_succ, Nat.reduceAdd, Nat.reduceSub, if_true, if_false, ite_true, ite_false, Bool.not_true, Bool.not_false, Bool.and_true, Bool.and_false, Bool.false_eq_true, reduceIte, fin_same, finE_same, fin_new, atI_0, atI_1, atI_2, eqW_ofs, look_ofs, look_nil, dspC, newDc, inW, Option.isSome_some, Option.isSome_none, itM, forM, items_dl, items_dt, methL, methD, arg0, arg1, arg2, appendW, popW, listW, get_new, set_new, isLst_new, pow109, String.reduceBEq, String.reduceEq, Bool.false_or, Bool.true_or, Bool.or_false, Bool.or_true, hzM])).trans ?_
    refine (seq_nx eW).trans ?_
    refine (seq_nx eD).trans ?_
    refine (seq_nx (e := E5 ns way N n M wd j none none none none none none) (s := S t3) (by simp only [szs, fnM, rawM, seqM, ifM, tvM, truM, binM, unM, appM, consA, nilA, varM, conM, retM, retN, asgM, expM, raiseM, passS, callF, app1, app2, noExc, isExc_d, isExc_c, bindS_ok, bindS_err, bindS_stuck, Res.bind_ok, Res.bind_err, Res.bind_stuck, onBl_bl, andT, orT, notT, andV, orV, notV, tupM, lstM, toDs, toD, asD_d, asD_new, frzW_d, newT, newL, slM, slW, someO, noneO, ixW, addW, subW, mulW, modW, cmpW, negW, lenW, intW, tabW, isNonB, isNonW, isNon_d, List.map_cons, List.map_nil, List.length_cons, List.length_nil, List.replicate, List.append_nil, List.nil_append, List.cons_append, List.getElem?_cons_zero, List.getElem?_cons_succ, List.set_cons_zero, List.set_cons_succ, Nat.reduceAdd, Nat.reduceSub, if_true, if_false, ite_true, ite_false, Bool.not_true, Bool.not_false, Bool.and_true, Bool.and_false, Bool.false_eq_true, reduceIte, fin_same, finE_same, fin_new, atI_0, atI_1, atI_2, eqW_ofs, look_ofs, look_nil, dspC, newDc, inW, Option.isSome_some, Option.isSome_none, itM, forM, items_dl, items_dt, methL, methD, arg0, arg1, arg2, appendW, popW, listW, get_new, set_new, isLst_new, pow109, String.reduceBEq, String.reduceEq, Bool.false_or, Bool.true_or, Bool.or_false, Bool.or_true, eF]; rfl)).trans ?_
    rfl
  -- the end, where nothing is put beneath
  have plain : ∀ t4 : Int, ∃ S', tail5 (E5 ns way N n M wd j none none none none none none) (S t4) = .ret (.d (.bl true)) S' := fun t4 =>
    tail5_ok ns way N n M wd j none none none P hP.ok.nd (fun p hp => (hP.ok.bl p hp).ro) (fun p hp => (hP.ok.bl p hp).sr) (by omega) t4 (.lst (encKK L1) :: e) L2 hcl2 (g6 t4) (fun w st hw => by
      obtain ⟨r, hr, eh⟩ := holds_ok w st P n b L2 hw hP.ok hb (fun k hk => by have := g1 k hk; omega) hcl2
      refine ⟨r, ?_, eh⟩
      rw [Bool.eq_iff_iff, hr, holdsK_iff, Bool.and_eq_true, beq_iff_eq, decide_eq_true_iff])
  by_cases hw : wd = ""
  · have hwb : (wd == "") = true := by rw [hw]; rfl
    obtain ⟨d, d0, d1, ed⟩ := draw0 ns t3 6 ([.dct (encP P), .lst (encKK L1)] ++ e) (by omega) (by omega) (by decide)
    have ed' : s_draw [.d (.scr ns), .c 0, .d (.int 6)] (S t3) = .ok (.d (.int d)) (S (t3 + 1)) := ed
    by_cases hd : d = 0
    · subst hd
      let b2 : Blk := ⟨b.ins, .text :: b.outs, b.rows⟩
      let P2 : Prg := putA P n b2
      let L3 : List (List Kd) := M.map fun ks => Kd.text :: ks
      have hput : putD (encP P) n (.tup [.tup (encK b.ins), .tup (D.str "text" :: encK b.outs), .lst (encR b.rows)]) = encP P2 := putP P n b2
      have hzP : (encP P).length < sizeLine := lt_line (by rw [List.length_map]; omega)
      have hzo : (encK b.outs).length + 1 ≤ sizeLine := small (by rw [List.length_map]; omega)
      have hz3 : (encKK L3).length ≤ sizeLine := small (by rw [List.length_map, List.length_map]; omega)
      have asdS : asD (S (t3 + 1)) (.c 1) = some (.dct (encP P)) := rfl
      let S2 : Store := tc (t3 + 1) :: ([.dct (encP P2), .lst (encKK L1)] ++ e)
      have elc : lcLoop 15 yesT (binM (addW false) (tupM (consA (conM (.str "text")) nilA)) (varM 15)) (encKK M) [] (E5 ns way N n M wd j (some (.d (.tup (encK b.ins)))) (some (.d (.tup (encK b.outs)))) (some (.d (.lst (encR b.rows)))) none none none) S2 = .ok (encKK L3) S2 := by
        rw [lcLoop_map (fun x => match x with | .tup xs => .tup (D.str "text" :: xs) | x => x) _ (fun x hx => ?_) hzM]
        · rw [List.map_map]
          show Res.ok (M.map _) S2 = Res.ok ((M.map _).map _) S2
          rw [List.map_map]; rfl
        · obtain ⟨ks, hks, rfl⟩ := List.mem_map.mp hx
          have := hMf ks hks
          have hz : (encK ks).length + 1 ≤ sizeLine := small (by rw [List.length_map]; omega)
          simp only [szs, fnM, rawM, seqM, ifM, tvM, truM, binM, unM, appM, consA, nilA, varM, conM, retM, retN, asgM, expM, raiseM, passS, callF, app1, app2, noExc, isExc_d, isExc_c, bindS_ok, bindS_err, bindS_stuck, Res.bind_ok, Res.bind_err, Res.bind_stuck, onBl_bl, andT, orT, notT, andV, orV, notV, tupM, lstM, toDs, toD, asD_d, asD_new, frzW_d, newT, newL, slM, slW, someO, noneO, ixW, addW, subW, mulW, modW, cmpW, negW, lenW, intW, tabW, isNonB, isNonW, isNon_d, List.map_cons, List.map_nil, List.length_cons, List.length_nil, List.replicate, List.append_nil, List.nil_append, List.cons_append, List.getElem?_cons_zero, List.getElem?_cons_succ, List.set_cons_zero, List.set_cons_succ, Nat.reduceAdd, Nat.reduceSub, if_true, if_false, ite_true, ite_false, Bool.not_true, Bool.not_false, Bool.and_true, Bool.and_false, Bool.false_eq_true, reduceIte, fin_same, finE_same, fin_new, atI_0, atI_1, atI_2, eqW_ofs, look_ofs, look_nil, dspC, newDc, inW, Option.isSome_some, Option.isSome_none, itM, forM, items_dl, items_dt, methL, methD, arg0, arg1, arg2, appendW, popW, listW, get_new, set_new, isLst_new, pow109, String.reduceBEq, String.reduceEq, Bool.false_or, Bool.true_or, Bool.or_false, Bool.or_true, hz]
      have hlen2 : S2.length = ([Cell.lst (encKK L1)] ++ e).length + 2 := rfl
      have tl := tail5_ok ns way N n M "end" S2.length (some (.d (.tup (encK b.ins)))) (some (.d (.tup (encK b.outs)))) (some (.d (.lst (encR b.rows)))) P2 (putA_nodup hP.ok.nd) (fun p hp => by
          rcases putA_mem hp with z | z
          · exact (hP.ok.bl p z).ro
          · subst z; exact hbo.ro) (fun p hp => by
          rcases putA_mem hp with z | z
          · exact (hP.ok.bl p z).sr
          · subst z; exact hbo.sr) (by have := putA_len_mem (v := b2) (lookA_mem hb); show (putA P n b2).length ≤ _; omega) (t3 + 1) ([.lst (encKK L1)] ++ e ++ [.lst (encKK L3)]) L3 (by rw [List.length_map]; omega) (by
          show asD (S2 ++ [.lst (encKK L3)]) (.c S2.length) = _
          exact asD_new _ _) (fun w st hw2 => by
          refine ⟨false, by simp, ?_⟩
          obtain ⟨k0, M', hM'⟩ : ∃ k0 M', M = k0 :: M' := by
            cases hh : M with
            | nil => exact absurd hh hM0
            | cons a l => exact ⟨a, l, rfl⟩
          have hL3 : L3 = (Kd.text :: k0) :: M'.map fun ks => Kd.text :: ks := by simp only [L3, hM', List.map_cons]
          rw [hL3]
          have hk0 : k0 = b.ins := by
            have := (holdsK_iff.mpr (show (wayK (telP P) b).2 = "" ∧ M = (wayK (telP P) b).1 from ⟨hw, rfl⟩)).2.1
            rw [hM'] at this
            injection this
          refine holds_no w st P2 n b2 (Kd.text :: k0) _ hw2 (by rw [lookA_put, if_pos rfl]) ?_
          rw [hk0]
          intro h
          have := congrArg List.length h
          simp [b2] at this)
      obtain ⟨S', hS'⟩ := tl
      have hS2 : tc (t3 + 1) :: Cell.dct (encP P2) :: ([.lst (encKK L1)] ++ e ++ [.lst (encKK L3)]) = S2 ++ [.lst (encKK L3)] := by simp only [S2, List.cons_append, List.nil_append, List.append_assoc]
      rw [hS2] at hS'
      refine (fnM_ret (st' := S') rfl ((hpre passS).trans ?_)).trans (fin_nil S' _)
      refine Eq.trans (seq_nx (b := tail5) (e := E5 ns way N n M "end" S2.length (some (.d (.tup (encK b.ins)))) (some (.d (.tup (encK b.outs)))) (some (.d (.lst (encR b.rows)))) none none none) (s := S2 ++ [.lst (encKK L3)]) ?_) ?_
      rotate_left
      · exact hS'
      refine (if_t (s := S (t3 + 1)) (by simp only [szs, fnM, rawM, seqM, ifM, tvM, truM, binM, unM, appM, consA, nilA, varM, conM, retM, retN, asgM, expM, raiseM, passS, callF, app1, app2, noExc, isExc_d, isExc_c, bindS_ok, bindS_err, bindS_stuck, Res.bind_ok, Res.bind_err, Res.bind_stuck, onBl_bl, andT, orT, notT, andV, orV, notV, tupM, lstM, toDs, toD, asD_d, asD_new, frzW_d, newT, newL, slM, slW, someO, noneO, ixW, addW, subW, mulW, modW, cmpW, negW, lenW, intW, tabW, isNonB, isNonW, isNon_d, List.map_cons, List.map_nil, List.length_cons, List.length_nil, List.replicate, List.append_nil, List.nil_append, List.cons_append, List.getElem?_cons_zero, List.getElem?_cons_succ, List.set_cons_zero, List.set_cons_succ, Nat.reduceAdd, Nat.reduceSub, if_true, if_false, ite_true, ite_false, Bool.not_true, Bool.not_false, Bool.and_true, Bool.and_false, Bool.false_eq_true, reduceIte, fin_same, finE_same, fin_new, atI_0, atI_1, atI_2, eqW_ofs, look_ofs, look_nil, dspC, newDc, inW, Option.isSome_some, Option.isSome_none, itM, forM, items_dl, items_dt, methL, methD, arg0, arg1, arg2, appendW, popW, listW, get_new, set_new, isLst_new, pow109, String.reduceBEq, String.reduceEq, Bool.false_or, Bool.true_or, Bool.or_false, Bool.or_true, hwb, ed', eqW_int, beq_self_eq_true])).trans ?_
      refine (seq_nx (e := E5 ns way N n M wd j (some (.d (.tup (encK b.ins)))) (some (.d (.tup (encK b.outs)))) (some (.d (.lst (encR b.rows)))) none none none) (s := S (t3 + 1)) (by simp only [szs, fnM, rawM, seqM, ifM, tvM, truM, binM, unM, appM, consA, nilA, varM, conM, retM, retN, asgM, expM, raiseM, passS, callF, app1, app2, noExc, isExc_d, isExc_c, bindS_ok, bindS_err, bindS_stuck, Res.bind_ok, Res.bind_err, Res.bind_stuck, onBl_bl, andT, orT, notT, andV, orV, notV, tupM, lstM, toDs, toD, asD_d, asD_new, frzW_d, newT, newL, slM, slW, someO, noneO, ixW, addW, subW, mulW, modW, cmpW, negW, lenW, intW, tabW, isNonB, isNonW, isNon_d, List.map_cons, List.map_nil, List.length_cons, List.length_nil, List.replicate, List.append_nil, List.nil_append, List.cons_append, List.getElem?_cons_zero, List.getElem?_cons_succ, List.set_cons_zero, List.set_cons_succ, Nat.reduceAdd, Nat.reduceSub, if_true, if_false, ite_true, ite_false, Bool.not_true, Bool.not_false, Bool.and_true, Bool.and_false, Bool.false_eq_true, reduceIte, fin_same, finE_same, fin_new, atI_0, atI_1, atI_2, eqW_ofs, look_ofs, look_nil, dspC, newDc, inW, Option.isSome_some, Option.isSome_none, itM, forM, items_dl, items_dt, methL, methD, arg0, arg1, arg2, appendW, popW, listW, get_new, set_new, isLst_new, pow109, String.reduceBEq, String.reduceEq, Bool.false_or, Bool.true_or, Bool.or_false, Bool.or_true, asgTM, asdS, hlk, sets])).trans ?_
      refine (seq_nx (e := E5 ns way N n M wd j (some (.d (.tup (encK b.ins)))) (some (.d (.tup (encK b.outs)))) (some (.d (.lst (encR b.rows)))) none none none) (s := S2) (by
        have hget : (S (t3 + 1))[1]? = some (.dct (encP P)) := rfl
        have hset : (S (t3 + 1)).set 1 (.dct (encP P2)) = S2 := rfl
        simp only [szs, fnM, rawM, seqM, ifM, tvM, truM, binM, unM, appM, consA, nilA, varM, conM, retM, retN, asgM, expM, raiseM, passS, callF, app1, app2, noExc, isExc_d, isExc_c, bindS_ok, bindS_err, bindS_stuck, Res.bind_ok, Res.bind_err, Res.bind_stuck, onBl_bl, andT, orT, notT, andV, orV, notV, tupM, lstM, toDs, toD, asD_d, asD_new, frzW_d, newT, newL, slM, slW, someO, noneO, ixW, addW, subW, mulW, modW, cmpW, negW, lenW, intW, tabW, isNonB, isNonW, isNon_d, List.map_cons, List.map_nil, List.length_cons, List.length_nil, List.replicate, List.append_nil, List.nil_append, List.cons_append, List.getElem?_cons_zero, List.getElem?_cons_succ, List.set_cons_zero, List.set_cons_succ, Nat.reduceAdd, Nat.reduceSub, if_true, if_false, ite_true, ite_false, Bool.not_true, Bool.not_false, Bool.and_true, Bool.and_false, Bool.false_eq_true, reduceIte, fin_same, finE_same, fin_new, atI_0, atI_1, atI_2, eqW_ofs, look_ofs, look_nil, dspC, newDc, inW, Option.isSome_some, Option.isSome_none, itM, forM, items_dl, items_dt, methL, methD, arg0, arg1, arg2, appendW, popW, listW, get_new, set_new, isLst_new, pow109, String.reduceBEq, String.reduceEq, Bool.false_or, Bool.true_or, Bool.or_false, Bool.or_true, setDM, hzo, hget, hzP, hput, hset])).trans ?_
      refine (seq_nx (e := E5 ns way N n M wd S2.length (some (.d (.tup (encK b.ins)))) (some (.d (.tup (encK b.outs)))) (some (.d (.lst (encR b.rows)))) none none none) (s := S2 ++ [.lst (encKK L3)]) (by
        unfold asgM lcM itM
        simp only [varM, List.getElem?_cons_zero, List.getElem?_cons_succ, Res.bind_ok, items_dl]
        rw [elc]
        simp only [szs, fnM, rawM, seqM, ifM, tvM, truM, binM, unM, appM, consA, nilA, varM, conM, retM, retN, asgM, expM, raiseM, passS, callF, app1, app2, noExc, isExc_d, isExc_c, bindS_ok, bindS_err, bindS_stuck, Res.bind_ok, Res.bind_err, Res.bind_stuck, onBl_bl, andT, orT, notT, andV, orV, notV, tupM, lstM, toDs, toD, asD_d, asD_new, frzW_d, newT, newL, slM, slW, someO, noneO, ixW, addW, subW, mulW, modW, cmpW, negW, lenW, intW, tabW, isNonB, isNonW, isNon_d, List.map_cons, List.map_nil, List.length_cons, List.length_nil, List.replicate, List.append_nil, List.nil_append, List.cons_append, List.getElem?_cons_zero, List.getElem?_cons_succ, List.set_cons_zero, List.set_cons_succ, Nat.reduceAdd, Nat.reduceSub, if_true, if_false, ite_true, ite_false, Bool.not_true, Bool.not_false, Bool.and_true, Bool.and_false, Bool.false_eq_true, reduceIte, fin_same, finE_same, fin_new, atI_0, atI_1, atI_2, eqW_ofs, look_ofs, look_nil, dspC, newDc, inW, Option.isSome_some, Option.isSome_none, itM, forM, items_dl, items_dt, methL, methD, arg0, arg1, arg2, appendW, popW, listW, get_new, set_new, isLst_new, pow109, String.reduceBEq, String.reduceEq, Bool.false_or, Bool.true_or, Bool.or_false, Bool.or_true, hz3])).trans ?_
      simp only [szs, fnM, rawM, seqM, ifM, tvM, truM, binM, unM, appM, consA, nilA, varM, conM, retM, retN, asgM, expM, raiseM, passS, callF, app1, app2, noExc, isExc_d, isExc_c, bindS_ok, bindS_err, bindS_stuck, Res.bind_ok, Res.bind_err, Res.bind_stuck, onBl_bl, andT, orT, notT, andV, orV, notV, tupM, lstM, toDs, toD, asD_d, asD_new, frzW_d, newT, newL, slM, slW, someO, noneO, ixW, addW, subW, mulW, modW, cmpW, negW, lenW, intW, tabW, isNonB, isNonW, isNon_d, List.map_cons, List.map_nil, List.length_cons, List.length_nil, List.replicate, List.append_nil, List.nil_append, List.cons_append, List.getElem?_cons_zero, List.getElem?_cons_succ, List.set_cons_zero, List.set_cons_succ, Nat.reduceAdd, Nat.reduceSub, if_true, if_false, ite_true, ite_false, Bool.not_true, Bool.not_false, Bool.and_true, Bool.and_false, Bool.false_eq_true, reduceIte, fin_same, finE_same, fin_new, atI_0, atI_1, atI_2, eqW_ofs, look_ofs, look_nil, dspC, newDc, inW, Option.isSome_some, Option.isSome_none, itM, forM, items_dl, items_dt, methL, methD, arg0, arg1, arg2, appendW, popW, listW, get_new, set_new, isLst_new, pow109, String.reduceBEq, String.reduceEq, Bool.false_or, Bool.true_or, Bool.or_false, Bool.or_true]
    · have hd' : (d == 0) = false := by simpa using hd
      obtain ⟨S', hS'⟩ := plain (t3 + 1)
      refine (fnM_ret (st' := S') rfl ((hpre passS).trans ?_)).trans (fin_nil S' _)
      exact (seq_nx (e := E5 ns way N n M wd j none none none none none none) (s := S (t3 + 1)) (by simp only [szs, fnM, rawM, seqM, ifM, tvM, truM, binM, unM, appM, consA, nilA, varM, conM, retM, retN, asgM, expM, raiseM, passS, callF, app1, app2, noExc, isExc_d, isExc_c, bindS_ok, bindS_err, bindS_stuck, Res.bind_ok, Res.bind_err, Res.bind_stuck, onBl_bl, andT, orT, notT, andV, orV, notV, tupM, lstM, toDs, toD, asD_d, asD_new, frzW_d, newT, newL, slM, slW, someO, noneO, ixW, addW, subW, mulW, modW, cmpW, negW, lenW, intW, tabW, isNonB, isNonW, isNon_d, List.map_cons, List.map_nil, List.length_cons, List.length_nil, List.replicate, List.append_nil, List.nil_append, List.cons_append, List.getElem?_cons_zero, List.getElem?_cons_succ, List.set_cons_zero, List.set_cons_succ, Nat.reduceAdd, Nat.reduceSub, if_true, if_false, ite_true, ite_false, Bool.not_true, Bool.not_false, Bool.and_true, Bool.and_false, Bool.false_eq_true, reduceIte, fin_same, finE_same, fin_new, atI_0, atI_1, atI_2, eqW_ofs, look_ofs, look_nil, dspC, newDc, inW, Option.isSome_some, Option.isSome_none, itM, forM, items_dl, items_dt, methL, methD, arg0, arg1, arg2, appendW, popW, listW, get_new, set_new, isLst_new, pow109, String.reduceBEq, String.reduceEq, Bool.false_or, Bool.true_or, Bool.or_false, Bool.or_true, hwb, ed', eqW_int, hd'])).trans hS'
  · have hwb : (wd == "") = false := by simpa using hw
    obtain ⟨S', hS'⟩ := plain t3
    refine (fnM_ret (st' := S') rfl ((hpre passS).trans ?_)).trans (fin_nil S' _)
    exact (seq_nx (e := E5 ns way N n M wd j none none none none none none) (s := S t3) (by simp only [szs, fnM, rawM, seqM, ifM, tvM, truM, binM, unM, appM, consA, nilA, varM, conM, retM, retN, asgM, expM, raiseM, passS, callF, app1, app2, noExc, isExc_d, isExc_c, bindS_ok, bindS_err, bindS_stuck, Res.bind_ok, Res.bind_err, Res.bind_stuck, onBl_bl, andT, orT, notT, andV, orV, notV, tupM, lstM, toDs, toD, asD_d, asD_new, frzW_d, newT, newL, slM, slW, someO, noneO, ixW, addW, subW, mulW, modW, cmpW, negW, lenW, intW, tabW, isNonB, isNonW, isNon_d, List.map_cons, List.map_nil, List.length_cons, List.length_nil, List.replicate, List.append_nil, List.nil_append, List.cons_append, List.getElem?_cons_zero, List.getElem?_cons_succ, List.set_cons_zero, List.set_cons_succ, Nat.reduceAdd, Nat.reduceSub, if_true, if_false, ite_true, ite_false, Bool.not_true, Bool.not_false, Bool.and_true, Bool.and_false, Bool.false_eq_true, reduceIte, fin_same, finE_same, fin_new, atI_0, atI_1, atI_2, eqW_ofs, look_ofs, look_nil, dspC, newDc, inW, Option.isSome_some, Option.isSome_none, itM, forM, items_dl, items_dt, methL, methD, arg0, arg1, arg2, appendW, popW, listW, get_new, set_new, isLst_new, pow109, String.reduceBEq, String.reduceEq, Bool.false_or, Bool.true_or, Bool.or_false, Bool.or_true, hwb])).trans hS'
end Py

namespace Py
open PySem L2 PySem.Spec PyProof.Rows
namespace Lk05
def top (i : Nat) : Stmt := PySem.Challenge.pw_stackproof_k05_trails_looked_at.main.body.getD i (.Pass ⟨0, 0, 0, 0⟩)
structure Txt (w : World) (K : PySem.W.Frag) (mg : Str → Option Value) (P : Pm) (tW tP aS : Addr) : Prop where
  b_bool : mg "bool" = none
  b_int : mg "int" = none
  b_isinstance : mg "isinstance" = none
  b_len : mg "len" = none
  b_list : mg "list" = none
  b_max : mg "max" = none
  b_range : mg "range" = none
  b_tuple : mg "tuple" = none
  b_zip : mg "zip" = none
  n_StackError : mg "StackError" = some (.ref aS)
  k_StackError : Catch K P (.ref aS) [.empty, .kind, .block, .apart, .dry]
  g_PUTS : mg "PUTS" = some (.ref tP)
  t_PUTS : TabOk K w tP T_PUTS
  g_WANTS : mg "WANTS" = some (.ref tW)
  t_WANTS : TabOk K w tW T_WANTS
  x_Apart : ExF K mg P "Apart" .apart
  x_Empty : ExF K mg P "Empty" .empty
  x_NoBlock : ExF K mg P "NoBlock" .block
  x_WrongKind : ExF K mg P "WrongKind" .kind
section
variable {Pg : Program} {w : World} {K : PySem.W.Frag} {mg : Str → Option Value} {base : Heap} {P : Pm} {tW tP aS : Addr}
theorem sc_draw : FnScope n_draw ["_law_script", "_law_tape", "_law_many"] (defScope (top 19)) := ⟨rfl, rfl, rfl, by decide +kernel, rfl, by decide +kernel, by decide +kernel⟩
theorem d_draw (T : Txt w K mg P tW tP aS) (hx : P.xa = none)  {f : Addr} {fd : FuncData} (F : L2.Fun K "_law_draw" "_law_draw" (top 19) f fd) : FnOk Pg w K mg base (L2.CX Pg w) 1 f fd ["_law_script", "_law_tape", "_law_many"] (spF K P 3 s_draw) :=
  okF (N := n_draw) (body := b_draw) (a := 3) (n := 5) F sc_draw rfl rfl hx fun cdv A outer s H E hr tk hp =>
  have hu : _ + 1 < cLine := hu_of hr
  have hu64 : _ + 64 < cLine := hr.units
(sss_cons (ss_setL (se_var 1) se_int (se_add false (se_ix hu (se_var 1) se_int) se_int))
 (sss_cons (ss_if (st_cmp op_le bo_cmp (se_ix hu (se_var 1) se_int) (se_len rfl T.b_len (sa_cons (se_var 0) sa_nil))) (sss_one (ss_ret (se_mod (se_ix hu (se_var 0) (se_sub (se_ix hu (se_var 1) se_int) se_int)) (se_var 2)))) sss_nil)
 (sss_cons (ss_asg (i := 3) sc_draw.nd rfl (Or.inl rfl) (se_len rfl T.b_len (sa_cons (se_var 0) sa_nil)))
 (sss_cons (ss_for hp rfl (si_it (se_slice false (se_var 0) so_none (so_some se_int))) (.name (i := 4) sc_draw.nd rfl (Or.inl rfl) (by first | exact .inl rfl | exact .inr rfl)) (sss_one (ss_asg (i := 3) sc_draw.nd rfl (Or.inl rfl) (se_mod (se_add false (se_mul false (se_var 3) se_int) (se_var 4)) se_int))))
 (sss_one (ss_ret (se_mod (se_mod (se_mul false (se_add false (se_var 3) se_int) (se_add false (se_mul false (se_ix hu (se_var 1) se_int) (se_ix hu (se_var 1) se_int)) se_int)) se_int) (se_var 2))))))))
theorem sc_words : FnScope n_words ["_law_cell", "_law_size"] (defScope (top 20)) := ⟨rfl, rfl, rfl, by decide +kernel, rfl, by decide +kernel, by decide +kernel⟩
theorem d_words (T : Txt w K mg P tW tP aS) (hx : P.xa = none)  {f : Addr} {fd : FuncData} (F : L2.Fun K "_law_words" "_law_words" (top 20) f fd) : FnOk Pg w K mg base (L2.CX Pg w) 1 f fd ["_law_cell", "_law_size"] (spF K P 2 s_words) :=
  okF (N := n_words) (body := b_words) (a := 2) (n := 4) F sc_words rfl rfl hx fun cdv A outer s H E hr tk hp =>
  have hu : _ + 1 < cLine := hu_of hr
  have hu64 : _ + 64 < cLine := hr.units
(sss_cons (ss_asg (i := 2) sc_words.nd rfl (Or.inr rfl) se_str)
 (sss_cons (ss_asg (i := 2) sc_words.nd rfl (Or.inr rfl) (se_add false (se_var 2) se_str))
 (sss_one (ss_ret (se_join (se_lc false rfl sc_words.nd (si_rng rfl T.b_range (se_var 1)) (blkOk_by (own := [("_law_k", 3)]) (N := n_words) (sc := defScope (top 20)) (by decide +kernel)) (fun _ _ _ _ _ => pg_name (i := 3) sc_words.nd rfl (Or.inl rfl)) (fun _ _ _ _ _ => spts_nil) (fun _ _ _ _ _ => (se_ix hu (se_var 2) (se_mod (se_add false (se_fdiv (se_var 0) (se_add false (se_var 3) se_int)) (se_mul false se_int (se_var 3))) se_int)))))))))
theorem sc_kinds_2 : FnScope n_kinds_2 ["_law_script", "_law_tape"] (defScope (top 28)) := ⟨rfl, rfl, rfl, by decide +kernel, rfl, by decide +kernel, by decide +kernel⟩
theorem d_kinds_2 (T : Txt w K mg P tW tP aS) (hx : P.xa = none) (C__law_draw : Cal Pg w K mg base P "_law_draw" 3 1 s_draw) {f : Addr} {fd : FuncData} (F : L2.Fun K "_law_kinds" "_law_kinds" (top 28) f fd) : FnOk Pg w K mg base (L2.CX Pg w) 2 f fd ["_law_script", "_law_tape"] (spF K P 2 s_kinds_2) :=
  okF (N := n_kinds_2) (body := b_kinds_2) (a := 2) (n := 4) F sc_kinds_2 rfl rfl hx fun cdv A outer s H E hr tk hp =>
  have hu : _ + 1 < cLine := hu_of hr
  have hu64 : _ + 64 < cLine := hr.units
(sss_cons (ss_asg (i := 2) sc_kinds_2.nd rfl (Or.inl rfl) (se_call C__law_draw A_draw (hr.mono (by decide)) rfl tk (sa_cons (se_var 0) (sa_cons (se_var 1) (sa_cons se_int sa_nil)))))
 (sss_cons (ss_if (st_eq hu64 (se_call C__law_draw A_draw (hr.mono (by decide)) rfl tk (sa_cons (se_var 0) (sa_cons (se_var 1) (sa_cons se_int sa_nil)))) se_int) (sss_one (ss_asg (i := 2) sc_kinds_2.nd rfl (Or.inl rfl) (se_add false se_int (se_mul false (se_var 2) se_int)))) sss_nil)
 (sss_one (ss_ret (se_tuple rfl T.b_tuple (sa_cons (se_lc false rfl sc_kinds_2.nd (si_rng rfl T.b_range (se_var 2)) (blkOk_by (own := [("_law_k", 3)]) (N := n_kinds_2) (sc := defScope (top 28)) (by decide +kernel)) (fun _ _ _ _ _ => pg_name (i := 3) sc_kinds_2.nd rfl (Or.inl rfl)) (fun _ _ _ _ _ => spts_nil) (fun _ _ _ _ _ => (se_ix hu (se_lst false (sa_cons se_str (sa_cons se_str sa_nil))) (se_call C__law_draw A_draw (hr.mono (by decide)) rfl takes0 (sa_cons (se_var 0) (sa_cons (se_var 1) (sa_cons se_int sa_nil))))))) sa_nil))))))
theorem sc_told_3 : FnScope n_told_3 ["_law_script", "_law_tape"] (defScope (top 29)) := ⟨rfl, rfl, rfl, by decide +kernel, rfl, by decide +kernel, by decide +kernel⟩
theorem d_told_3 (T : Txt w K mg P tW tP aS) (hx : P.xa = none) (C__law_words : Cal Pg w K mg base P "_law_words" 2 1 s_words) (C__law_draw : Cal Pg w K mg base P "_law_draw" 3 1 s_draw) (C__law_kinds : Cal Pg w K mg base P "_law_kinds" 2 2 s_kinds_2) {f : Addr} {fd : FuncData} (F : L2.Fun K "_law_told" "_law_told" (top 29) f fd) : FnOk Pg w K mg base (L2.CX Pg w) 3 f fd ["_law_script", "_law_tape"] (spF K P 2 s_told_3) :=
  okF (N := n_told_3) (body := b_told_3) (a := 2) (n := 10) F sc_told_3 rfl rfl hx fun cdv A outer s H E hr tk hp =>
  have hu : _ + 1 < cLine := hu_of hr
  have hu64 : _ + 64 < cLine := hr.units
(sss_cons (ss_asg (i := 2) sc_told_3.nd rfl (Or.inl rfl) (se_add false se_int (se_call C__law_draw A_draw (hr.mono (by decide)) rfl tk (sa_cons (se_var 0) (sa_cons (se_var 1) (sa_cons se_int sa_nil))))))
 (sss_cons (ss_if (st_eq hu64 (se_call C__law_draw A_draw (hr.mono (by decide)) rfl tk (sa_cons (se_var 0) (sa_cons (se_var 1) (sa_cons se_int sa_nil)))) se_int) (sss_one (ss_asg (i := 2) sc_told_3.nd rfl (Or.inl rfl) (se_add false se_int (se_call C__law_draw A_draw (hr.mono (by decide)) rfl tk (sa_cons (se_var 0) (sa_cons (se_var 1) (sa_cons se_int sa_nil))))))) sss_nil)
 (sss_cons (ss_asg (i := 3) sc_told_3.nd rfl (Or.inl rfl) (se_dnew true))
 (sss_cons (ss_asg (i := 4) sc_told_3.nd rfl (Or.inl rfl) (se_tup (sa_cons (se_tup (sa_cons se_str sa_nil)) (sa_cons (se_tup (sa_cons se_str sa_nil)) sa_nil))))
 (sss_cons (ss_asg (i := 5) sc_told_3.nd rfl (Or.inl rfl) (se_call C__law_words A_words (hr.mono (by decide)) rfl tk (sa_cons (se_call C__law_draw A_draw (hr.mono (by decide)) rfl tk (sa_cons (se_var 0) (sa_cons (se_var 1) (sa_cons se_int sa_nil)))) (sa_cons (se_ix hu (se_lst false (sa_cons se_int (sa_cons se_int (sa_cons se_int sa_nil)))) (se_call C__law_draw A_draw (hr.mono (by decide)) rfl tk (sa_cons (se_var 0) (sa_cons (se_var 1) (sa_cons se_int sa_nil))))) sa_nil))))
 (sss_cons (ss_asg (i := 6) sc_told_3.nd rfl (Or.inl rfl) (se_call C__law_draw A_draw (hr.mono (by decide)) rfl tk (sa_cons (se_var 0) (sa_cons (se_var 1) (sa_cons se_int sa_nil)))))
 (sss_cons (ss_for hp rfl (si_rng rfl T.b_range (se_var 2)) (.name (i := 7) sc_told_3.nd rfl (Or.inl rfl) (by first | exact .inl rfl | exact .inr rfl)) (sss_cons (ss_asg (i := 8) sc_told_3.nd rfl (Or.inl rfl) (se_add false (se_add false (se_var 5) (se_call C__law_words A_words (hr.mono (by decide)) rfl tk (sa_cons (se_call C__law_draw A_draw (hr.mono (by decide)) rfl tk (sa_cons (se_var 0) (sa_cons (se_var 1) (sa_cons se_int sa_nil)))) (sa_cons (se_call C__law_draw A_draw (hr.mono (by decide)) rfl tk (sa_cons (se_var 0) (sa_cons (se_var 1) (sa_cons se_int sa_nil)))) sa_nil)))) (se_ix hu se_str (se_var 7))))
 (sss_cons (ss_if (st_eq hu64 (se_var 6) se_int) (sss_one (ss_asg (i := 8) sc_told_3.nd rfl (Or.inl rfl) (se_add false (se_add false (se_var 5) (se_ix hu se_str (se_var 7))) (se_var 5)))) sss_nil)
 (sss_cons (ss_asg (i := 9) sc_told_3.nd rfl (Or.inl rfl) (se_call C__law_draw A_draw (hr.mono (by decide)) rfl tk (sa_cons (se_var 0) (sa_cons (se_var 1) (sa_cons se_int sa_nil)))))
 (sss_cons (ss_if (st_w (sw_or (st_eq hu64 (se_var 7) se_int) (sw_or1 (st_eq hu64 (se_var 9) se_int)))) (sss_one (ss_asg (i := 4) sc_told_3.nd rfl (Or.inl rfl) (se_tup (sa_cons (se_call C__law_kinds A_kinds_2 (hr.mono (by decide)) rfl tk (sa_cons (se_var 0) (sa_cons (se_var 1) sa_nil))) (sa_cons (se_call C__law_kinds A_kinds_2 (hr.mono (by decide)) rfl tk (sa_cons (se_var 0) (sa_cons (se_var 1) sa_nil))) sa_nil))))) sss_nil)
 (sss_cons (ss_if (st_w (sw_or (st_eq hu64 (se_var 9) se_int) (sw_or1 (st_eq hu64 (se_var 9) se_int)))) (sss_one (ss_asg (i := 4) sc_told_3.nd rfl (Or.inl rfl) (se_tup (sa_cons (se_ix hu (se_var 4) se_int) (sa_cons (se_call C__law_kinds A_kinds_2 (hr.mono (by decide)) rfl tk (sa_cons (se_var 0) (sa_cons (se_var 1) sa_nil))) sa_nil))))) sss_nil)
 (sss_one (ss_setD hu (se_var 3) (se_var 8) (se_var 4)))))))))
 (sss_one (ss_ret (se_var 3))))))))))
theorem sc_value : FnScope n_value ["_law_script", "_law_tape", "_law_kind"] (defScope (top 21)) := ⟨rfl, rfl, rfl, by decide +kernel, rfl, by decide +kernel, by decide +kernel⟩
theorem d_value (T : Txt w K mg P tW tP aS) (hx : P.xa = none) (C__law_draw : Cal Pg w K mg base P "_law_draw" 3 1 s_draw) (C__law_words : Cal Pg w K mg base P "_law_words" 2 1 s_words) {f : Addr} {fd : FuncData} (F : L2.Fun K "_law_value" "_law_value" (top 21) f fd) : FnOk Pg w K mg base (L2.CX Pg w) 2 f fd ["_law_script", "_law_tape", "_law_kind"] (spF K P 3 s_value) :=
  okF (N := n_value) (body := b_value) (a := 3) (n := 5) F sc_value rfl rfl hx fun cdv A outer s H E hr tk hp =>
  have hu : _ + 1 < cLine := hu_of hr
  have hu64 : _ + 64 < cLine := hr.units
(sss_cons (ss_asg (i := 3) sc_value.nd rfl (Or.inl rfl) (se_call C__law_draw A_draw (hr.mono (by decide)) rfl tk (sa_cons (se_var 0) (sa_cons (se_var 1) (sa_cons se_int sa_nil)))))
 (sss_cons (ss_asg (i := 4) sc_value.nd rfl (Or.inl rfl) (se_call C__law_draw A_draw (hr.mono (by decide)) rfl tk (sa_cons (se_var 0) (sa_cons (se_var 1) (sa_cons se_int sa_nil)))))
 (sss_cons (ss_if (st_eq hu64 (se_var 2) se_str) (sss_cons (ss_if (st_eq hu64 (se_var 4) se_int) (sss_one (ss_ret (se_call C__law_words A_words (hr.mono (by decide)) rfl tk (sa_cons (se_var 3) (sa_cons (se_add false se_int (se_mod (se_var 3) se_int)) sa_nil))))) sss_nil)
 (sss_one (ss_ret (se_call C__law_words A_words (hr.mono (by decide)) rfl tk (sa_cons (se_var 3) (sa_cons (se_mod (se_fdiv (se_var 3) se_int) se_int) sa_nil)))))) sss_nil)
 (sss_cons (ss_if (st_eq hu64 (se_var 4) se_int) (sss_one (ss_ret (se_sub se_int (se_mod (se_var 3) se_int)))) sss_nil)
 (sss_cons (ss_if (st_cmp op_lt bo_cmp (se_var 4) se_int) (sss_one (ss_ret (se_mod (se_var 3) se_int))) sss_nil)
 (sss_one (ss_ret (se_var 3))))))))
theorem sc_plain_row : FnScope n_plain_row ["_law_script", "_law_tape"] (defScope (top 27)) := ⟨rfl, rfl, rfl, by decide +kernel, rfl, by decide +kernel, by decide +kernel⟩
theorem d_plain_row (T : Txt w K mg P tW tP aS) (hx : P.xa = none) (C__law_draw : Cal Pg w K mg base P "_law_draw" 3 1 s_draw) (C__law_value : Cal Pg w K mg base P "_law_value" 3 2 s_value) {f : Addr} {fd : FuncData} (F : L2.Fun K "_law_plain_row" "_law_plain_row" (top 27) f fd) : FnOk Pg w K mg base (L2.CX Pg w) 3 f fd ["_law_script", "_law_tape"] (spF K P 2 s_plain_row) :=
  okF (N := n_plain_row) (body := b_plain_row) (a := 2) (n := 4) F sc_plain_row rfl rfl hx fun cdv A outer s H E hr tk hp =>
  have hu : _ + 1 < cLine := hu_of hr
  have hu64 : _ + 64 < cLine := hr.units
(sss_cons (ss_asg (i := 2) sc_plain_row.nd rfl (Or.inl rfl) (se_lst false (sa_cons se_str (sa_cons se_str (sa_cons se_str (sa_cons se_str (sa_cons se_str (sa_cons se_str (sa_cons se_str (sa_cons se_str (sa_cons se_str (sa_cons se_str (sa_cons se_str (sa_cons se_str (sa_cons se_str sa_nil)))))))))))))))
 (sss_cons (ss_asg (i := 3) sc_plain_row.nd rfl (Or.inl rfl) (se_ix hu (se_var 2) (se_call C__law_draw A_draw (hr.mono (by decide)) rfl tk (sa_cons (se_var 0) (sa_cons (se_var 1) (sa_cons se_int sa_nil))))))
 (sss_cons (ss_if (st_w (sw_or (st_eq hu64 (se_var 3) se_str) (sw_or1 (st_eq hu64 (se_var 3) se_str)))) (sss_one (ss_ret (se_tup (sa_cons (se_var 3) (sa_cons (se_call C__law_value A_value (hr.mono (by decide)) rfl tk (sa_cons (se_var 0) (sa_cons (se_var 1) (sa_cons (se_var 3) sa_nil)))) sa_nil))))) sss_nil)
 (sss_cons (ss_if (st_eq hu64 (se_var 3) se_str) (sss_one (ss_ret (se_tup (sa_cons (se_var 3) (sa_cons (se_ix hu (se_lst false (sa_cons se_int (sa_cons se_int (sa_cons se_int (sa_cons se_int (sa_cons se_int (sa_cons se_int (sa_cons (se_call C__law_draw A_draw (hr.mono (by decide)) rfl tk (sa_cons (se_var 0) (sa_cons (se_var 1) (sa_cons se_int sa_nil)))) (sa_cons se_int sa_nil))))))))) (se_call C__law_draw A_draw (hr.mono (by decide)) rfl tk (sa_cons (se_var 0) (sa_cons (se_var 1) (sa_cons se_int sa_nil))))) sa_nil))))) sss_nil)
 (sss_one (ss_ret (se_tup (sa_cons (se_var 3) sa_nil))))))))
theorem sc_pushes : FnScope n_pushes ["_law_script", "_law_tape", "_law_kinds_here"] (defScope (top 30)) := ⟨rfl, rfl, rfl, by decide +kernel, rfl, by decide +kernel, by decide +kernel⟩
theorem d_pushes (T : Txt w K mg P tW tP aS) (hx : P.xa = none) (C__law_value : Cal Pg w K mg base P "_law_value" 3 2 s_value) {f : Addr} {fd : FuncData} (F : L2.Fun K "_law_pushes" "_law_pushes" (top 30) f fd) : FnOk Pg w K mg base (L2.CX Pg w) 3 f fd ["_law_script", "_law_tape", "_law_kinds_here"] (spF K P 3 s_pushes) :=
  okF (N := n_pushes) (body := b_pushes) (a := 3) (n := 4) F sc_pushes rfl rfl hx fun cdv A outer s H E hr tk hp =>
  have hu : _ + 1 < cLine := hu_of hr
  have hu64 : _ + 64 < cLine := hr.units
(sss_one (ss_ret (se_lc false rfl sc_pushes.nd (si_it (se_var 2)) (blkOk_by (own := [("_law_kind", 3)]) (N := n_pushes) (sc := defScope (top 30)) (by decide +kernel)) (fun _ _ _ _ _ => pg_name (i := 3) sc_pushes.nd rfl (Or.inl rfl)) (fun _ _ _ _ _ => spts_nil) (fun _ _ _ _ _ => (se_tup (sa_cons (se_var 3) (sa_cons (se_call C__law_value A_value (hr.mono (by decide)) rfl takes0 (sa_cons (se_var 0) (sa_cons (se_var 1) (sa_cons (se_var 3) sa_nil)))) sa_nil)))))))
theorem sc_lack_2 : FnScope n_lack_2 ["_law_kinds_here", "_law_wanted_here"] (defScope (top 23)) := ⟨rfl, rfl, rfl, by decide +kernel, rfl, by decide +kernel, by decide +kernel⟩
theorem d_lack_2 (T : Txt w K mg P tW tP aS) (hx : P.xa = none)  {f : Addr} {fd : FuncData} (F : L2.Fun K "_law_lack" "_law_lack" (top 23) f fd) : FnOk Pg w K mg base (L2.CX Pg w) 1 f fd ["_law_kinds_here", "_law_wanted_here"] (spF K P 2 s_lack_2) :=
  okF (N := n_lack_2) (body := b_lack_2) (a := 2) (n := 4) F sc_lack_2 rfl rfl hx fun cdv A outer s H E hr tk hp =>
  have hu : _ + 1 < cLine := hu_of hr
  have hu64 : _ + 64 < cLine := hr.units
(sss_cons (ss_if (st_cmp op_lt bo_cmp (se_len rfl T.b_len (sa_cons (se_var 0) sa_nil)) (se_len rfl T.b_len (sa_cons (se_var 1) sa_nil))) (sss_one (ss_ret se_str)) sss_nil)
 (sss_cons (ss_asg (i := 2) sc_lack_2.nd rfl (Or.inl rfl) (se_sub (se_len rfl T.b_len (sa_cons (se_var 0) sa_nil)) (se_len rfl T.b_len (sa_cons (se_var 1) sa_nil))))
 (sss_cons (ss_for hp rfl (si_rng rfl T.b_range (se_len rfl T.b_len (sa_cons (se_var 1) sa_nil))) (.name (i := 3) sc_lack_2.nd rfl (Or.inl rfl) (by first | exact .inl rfl | exact .inr rfl)) (sss_one (ss_if (st_w (sw_and (st_ne hu64 (se_ix hu (se_var 1) (se_var 3)) se_str) (sw_and1 (st_ne hu64 (se_ix hu (se_var 1) (se_var 3)) (se_ix hu (se_var 0) (se_add false (se_var 2) (se_var 3))))))) (sss_one (ss_ret se_str)) sss_nil)))
 (sss_one (ss_ret se_str)))))
theorem sc_choice : FnScope n_choice ["_law_script", "_law_tape", "_law_told_here", "_law_names", "_law_kinds_here"] (defScope (top 31)) := ⟨rfl, rfl, rfl, by decide +kernel, rfl, by decide +kernel, by decide +kernel⟩
theorem d_choice (T : Txt w K mg P tW tP aS) (hx : P.xa = none) (C__law_draw : Cal Pg w K mg base P "_law_draw" 3 1 s_draw) (C__law_pushes : Cal Pg w K mg base P "_law_pushes" 3 3 s_pushes) (C__law_value : Cal Pg w K mg base P "_law_value" 3 2 s_value) (C__law_lack : Cal Pg w K mg base P "_law_lack" 2 1 s_lack_2) {f : Addr} {fd : FuncData} (F : L2.Fun K "_law_choice" "_law_choice" (top 31) f fd) : FnOk Pg w K mg base (L2.CX Pg w) 4 f fd ["_law_script", "_law_tape", "_law_told_here", "_law_names", "_law_kinds_here"] (spF K P 5 s_choice) :=
  okF (N := n_choice) (body := b_choice) (a := 5) (n := 9) F sc_choice rfl rfl hx fun cdv A outer s H E hr tk hp =>
  have hu : _ + 1 < cLine := hu_of hr
  have hu64 : _ + 64 < cLine := hr.units
(sss_cons (ss_asg (i := 5) sc_choice.nd rfl (Or.inr rfl) (se_ix hu (se_var 3) (se_call C__law_draw A_draw (hr.mono (by decide)) rfl tk (sa_cons (se_var 0) (sa_cons (se_var 1) (sa_cons (se_len rfl T.b_len (sa_cons (se_var 3) sa_nil)) sa_nil))))))
 (sss_cons (ss_if (st_eq hu64 (se_call C__law_draw A_draw (hr.mono (by decide)) rfl tk (sa_cons (se_var 0) (sa_cons (se_var 1) (sa_cons se_int sa_nil)))) se_int) (sss_cons (ss_if (st_w (sw_and (st_eq hu64 (se_call C__law_lack A_lack_2 (hr.mono (by decide)) rfl tk (sa_cons (se_var 4) (sa_cons (se_list false rfl rfl T.b_list (sa_cons (se_ix hu (se_ix hu (se_var 2) (se_var 5)) se_int) sa_nil)) sa_nil))) se_str) (sw_and1 (st_eq hu64 (se_call C__law_draw A_draw (hr.mono (by decide)) rfl tk (sa_cons (se_var 0) (sa_cons (se_var 1) (sa_cons se_int sa_nil)))) se_int)))) (sss_one (ss_ret (se_lst false (sa_cons (se_tup (sa_cons se_str (sa_cons (se_var 5) sa_nil))) sa_nil)))) sss_nil)
 (sss_one (ss_ret (se_add false (se_call C__law_pushes A_pushes (hr.mono (by decide)) rfl tk (sa_cons (se_var 0) (sa_cons (se_var 1) (sa_cons (se_ix hu (se_ix hu (se_var 2) (se_var 5)) se_int) sa_nil)))) (se_lst false (sa_cons (se_tup (sa_cons se_str (sa_cons (se_var 5) sa_nil))) sa_nil)))))) sss_nil)
 (sss_cons (ss_asg (i := 6) sc_choice.nd rfl (Or.inl rfl) (se_add false (se_lc false rfl sc_choice.nd (si_it (se_var 3)) (blkOk_by (own := [("_law_other", 7)]) (N := n_choice) (sc := defScope (top 31)) (by decide +kernel)) (fun _ _ _ _ _ => pg_name (i := 7) sc_choice.nd rfl (Or.inl rfl)) (fun _ _ _ _ _ => spts_one (st_w (sw_and (st_eq hu64 (se_ix hu (se_var 2) (se_var 7)) (se_ix hu (se_var 2) (se_var 5))) (sw_and1 (st_ne hu64 (se_var 7) (se_var 5)))))) (fun _ _ _ _ _ => (se_var 7))) (se_lst false (sa_cons (se_var 5) sa_nil))))
 (sss_cons (ss_asg (i := 7) sc_choice.nd rfl (Or.inl rfl) (se_ix hu (se_var 6) (se_mod (se_call C__law_draw A_draw (hr.mono (by decide)) rfl tk (sa_cons (se_var 0) (sa_cons (se_var 1) (sa_cons se_int sa_nil)))) (se_max rfl rfl T.b_max (sa_cons se_int (sa_cons (se_sub (se_len rfl T.b_len (sa_cons (se_var 6) sa_nil)) se_int) sa_nil))))))
 (sss_cons (ss_asg (i := 8) sc_choice.nd rfl (Or.inl rfl) (se_ix hu (se_lst false (sa_cons se_int (sa_cons se_int (sa_cons se_int (sa_cons (se_call C__law_value A_value (hr.mono (by decide)) rfl tk (sa_cons (se_var 0) (sa_cons (se_var 1) (sa_cons se_str sa_nil)))) sa_nil))))) (se_call C__law_draw A_draw (hr.mono (by decide)) rfl tk (sa_cons (se_var 0) (sa_cons (se_var 1) (sa_cons se_int sa_nil))))))
 (sss_one (ss_ret (se_add false (se_call C__law_pushes A_pushes (hr.mono (by decide)) rfl tk (sa_cons (se_var 0) (sa_cons (se_var 1) (sa_cons (se_ix hu (se_ix hu (se_var 2) (se_var 5)) se_int) sa_nil)))) (se_lst false (sa_cons (se_tup (sa_cons se_str (sa_cons (se_var 8) sa_nil))) (sa_cons (se_tup (sa_cons se_str (sa_cons (se_var 5) (sa_cons (se_var 7) sa_nil)))) sa_nil)))))))))))
theorem sc_wanted : FnScope n_wanted ["_law_row"] (defScope (top 22)) := ⟨rfl, rfl, rfl, by decide +kernel, rfl, by decide +kernel, by decide +kernel⟩
theorem d_wanted (T : Txt w K mg P tW tP aS) (hx : P.xa = none)  {f : Addr} {fd : FuncData} (F : L2.Fun K "_law_wanted" "_law_wanted" (top 22) f fd) : FnOk Pg w K mg base (L2.CX Pg w) 1 f fd ["_law_row"] (spF K P 1 s_wanted) :=
  okF (N := n_wanted) (body := b_wanted) (a := 1) (n := 3) F sc_wanted rfl rfl hx fun cdv A outer s H E hr tk hp =>
  have hu : _ + 1 < cLine := hu_of hr
  have hu64 : _ + 64 < cLine := hr.units
(sss_cons (ss_if (st_eq hu64 (se_ix hu (se_var 0) se_int) se_str) (sss_one (ss_ret (se_mul false (se_lst false (sa_cons se_str sa_nil)) (se_add false (se_ix hu (se_var 0) se_int) se_int)))) sss_nil)
 (sss_cons (ss_asg (i := 1) sc_wanted.nd rfl (Or.inl rfl) (se_dsp false (kvs := [("add", .str "num"), ("mul", .str "num"), ("less", .str "num"), ("join", .str "text"), ("swap", .str "")]) (sd_cons pe_str (sd_cons pe_str (sd_cons pe_str (sd_cons pe_str (sd_cons pe_str sd_nil)))))))
 (sss_cons (ss_asg (i := 2) sc_wanted.nd rfl (Or.inl rfl) (se_dsp false (kvs := [("long", .str "text"), ("show", .str "num"), ("drop", .str "")]) (sd_cons pe_str (sd_cons pe_str (sd_cons pe_str sd_nil)))))
 (sss_cons (ss_if (st_in hu (se_ix hu (se_var 0) se_int) (se_var 1)) (sss_one (ss_ret (se_lst false (sa_cons (se_ix hu (se_var 1) (se_ix hu (se_var 0) se_int)) (sa_cons (se_ix hu (se_var 1) (se_ix hu (se_var 0) se_int)) sa_nil))))) sss_nil)
 (sss_cons (ss_if (st_in hu (se_ix hu (se_var 0) se_int) (se_var 2)) (sss_one (ss_ret (se_lst false (sa_cons (se_ix hu (se_var 2) (se_ix hu (se_var 0) se_int)) sa_nil)))) sss_nil)
 (sss_one (ss_ret (se_lst false sa_nil))))))))
theorem sc_fitting : FnScope n_fitting ["_law_script", "_law_tape", "_law_told_here", "_law_names", "_law_kinds_here"] (defScope (top 32)) := ⟨rfl, rfl, rfl, by decide +kernel, rfl, by decide +kernel, by decide +kernel⟩
theorem d_fitting (T : Txt w K mg P tW tP aS) (hx : P.xa = none) (C__law_plain_row : Cal Pg w K mg base P "_law_plain_row" 2 3 s_plain_row) (C__law_pushes : Cal Pg w K mg base P "_law_pushes" 3 3 s_pushes) (C__law_choice : Cal Pg w K mg base P "_law_choice" 5 4 s_choice) (C__law_lack : Cal Pg w K mg base P "_law_lack" 2 1 s_lack_2) (C__law_draw : Cal Pg w K mg base P "_law_draw" 3 1 s_draw) (C__law_wanted : Cal Pg w K mg base P "_law_wanted" 1 1 s_wanted) {f : Addr} {fd : FuncData} (F : L2.Fun K "_law_fitting" "_law_fitting" (top 32) f fd) : FnOk Pg w K mg base (L2.CX Pg w) 5 f fd ["_law_script", "_law_tape", "_law_told_here", "_law_names", "_law_kinds_here"] (spF K P 5 s_fitting) :=
  okF (N := n_fitting) (body := b_fitting) (a := 5) (n := 6) F sc_fitting rfl rfl hx fun cdv A outer s H E hr tk hp =>
  have hu : _ + 1 < cLine := hu_of hr
  have hu64 : _ + 64 < cLine := hr.units
(sss_cons (ss_if (st_w (sw_and (st_cmp op_gt bo_cmp (se_len rfl T.b_len (sa_cons (se_var 3) sa_nil)) se_int) (sw_and1 (st_eq hu64 (se_call C__law_draw A_draw (hr.mono (by decide)) rfl tk (sa_cons (se_var 0) (sa_cons (se_var 1) (sa_cons se_int sa_nil)))) se_int)))) (sss_one (ss_ret (se_call C__law_choice A_choice (hr.mono (by decide)) rfl tk (sa_cons (se_var 0) (sa_cons (se_var 1) (sa_cons (se_var 2) (sa_cons (se_var 3) (sa_cons (se_var 4) sa_nil)))))))) sss_nil)
 (sss_cons (ss_asg (i := 5) sc_fitting.nd rfl (Or.inl rfl) (se_call C__law_plain_row A_plain_row (hr.mono (by decide)) rfl tk (sa_cons (se_var 0) (sa_cons (se_var 1) sa_nil))))
 (sss_cons (ss_if (st_eq hu64 (se_call C__law_lack A_lack_2 (hr.mono (by decide)) rfl tk (sa_cons (se_var 4) (sa_cons (se_call C__law_wanted A_wanted (hr.mono (by decide)) rfl tk (sa_cons (se_var 5) sa_nil)) sa_nil))) se_str) (sss_one (ss_ret (se_lst false (sa_cons (se_var 5) sa_nil)))) sss_nil)
 (sss_one (ss_ret (se_call C__law_pushes A_pushes (hr.mono (by decide)) rfl tk (sa_cons (se_var 0) (sa_cons (se_var 1) (sa_cons (se_lst false (sa_cons (se_ix hu (se_lst false (sa_cons se_str (sa_cons se_str sa_nil))) (se_call C__law_draw A_draw (hr.mono (by decide)) rfl tk (sa_cons (se_var 0) (sa_cons (se_var 1) (sa_cons se_int sa_nil))))) sa_nil)) sa_nil)))))))))
theorem sc_called : FnScope n_called ["_law_told_here", "_law_kinds_here", "_law_name"] (defScope (top 25)) := ⟨rfl, rfl, rfl, by decide +kernel, rfl, by decide +kernel, by decide +kernel⟩
theorem d_called (T : Txt w K mg P tW tP aS) (hx : P.xa = none) (C__law_lack : Cal Pg w K mg base P "_law_lack" 2 1 s_lack_2) {f : Addr} {fd : FuncData} (F : L2.Fun K "_law_called" "_law_called" (top 25) f fd) : FnOk Pg w K mg base (L2.CX Pg w) 2 f fd ["_law_told_here", "_law_kinds_here", "_law_name"] (spF K P 3 s_called) :=
  okF (N := n_called) (body := b_called) (a := 3) (n := 5) F sc_called rfl rfl hx fun cdv A outer s H E hr tk hp =>
  have hu : _ + 1 < cLine := hu_of hr
  have hu64 : _ + 64 < cLine := hr.units
(sss_cons (ss_asg (i := 3) sc_called.nd rfl (Or.inl rfl) (se_list false rfl rfl T.b_list (sa_cons (se_ix hu (se_ix hu (se_var 0) (se_var 2)) se_int) sa_nil)))
 (sss_cons (ss_asg (i := 4) sc_called.nd rfl (Or.inl rfl) (se_call C__law_lack A_lack_2 (hr.mono (by decide)) rfl tk (sa_cons (se_var 1) (sa_cons (se_var 3) sa_nil))))
 (sss_cons (ss_if (st_ne hu64 (se_var 4) se_str) (sss_one (ss_ret (se_tup (sa_cons (se_var 4) (sa_cons (se_var 1) sa_nil))))) sss_nil)
 (sss_one (ss_ret (se_tup (sa_cons se_str (sa_cons (se_add false (se_slice false (se_var 1) so_none (so_some (se_sub (se_len rfl T.b_len (sa_cons (se_var 1) sa_nil)) (se_len rfl T.b_len (sa_cons (se_var 3) sa_nil))))) (se_list false rfl rfl T.b_list (sa_cons (se_ix hu (se_ix hu (se_var 0) (se_var 2)) se_int) sa_nil))) sa_nil))))))))
theorem sc_plainly_2 : FnScope n_plainly_2 ["_law_kinds_here", "_law_row"] (defScope (top 24)) := ⟨rfl, rfl, rfl, by decide +kernel, rfl, by decide +kernel, by decide +kernel⟩
theorem d_plainly_2 (T : Txt w K mg P tW tP aS) (hx : P.xa = none) (C__law_wanted : Cal Pg w K mg base P "_law_wanted" 1 1 s_wanted) {f : Addr} {fd : FuncData} (F : L2.Fun K "_law_plainly" "_law_plainly" (top 24) f fd) : FnOk Pg w K mg base (L2.CX Pg w) 2 f fd ["_law_kinds_here", "_law_row"] (spF K P 2 s_plainly_2) :=
  okF (N := n_plainly_2) (body := b_plainly_2) (a := 2) (n := 3) F sc_plainly_2 rfl rfl hx fun cdv A outer s H E hr tk hp =>
  have hu : _ + 1 < cLine := hu_of hr
  have hu64 : _ + 64 < cLine := hr.units
(sss_cons (ss_asg (i := 2) sc_plainly_2.nd rfl (Or.inl rfl) (se_slice false (se_var 0) so_none (so_some (se_sub (se_len rfl T.b_len (sa_cons (se_var 0) sa_nil)) (se_len rfl T.b_len (sa_cons (se_call C__law_wanted A_wanted (hr.mono (by decide)) rfl tk (sa_cons (se_var 1) sa_nil)) sa_nil))))))
 (sss_cons (ss_if (st_eq hu64 (se_ix hu (se_var 1) se_int) se_str) (sss_one (ss_ret (se_add false (se_var 0) (se_lst false (sa_cons (se_ix hu (se_var 0) (se_sub (se_sub (se_len rfl T.b_len (sa_cons (se_var 0) sa_nil)) se_int) (se_ix hu (se_var 1) se_int))) sa_nil))))) sss_nil)
 (sss_cons (ss_if (st_eq hu64 (se_ix hu (se_var 1) se_int) se_str) (sss_one (ss_ret (se_add false (se_var 2) (se_lst false (sa_cons (se_ix hu (se_var 0) (se_neg se_int)) (sa_cons (se_ix hu (se_var 0) (se_neg se_int)) sa_nil)))))) sss_nil)
 (sss_cons (ss_if (st_eq hu64 (se_ix hu (se_var 1) se_int) se_str) (sss_one (ss_ret (se_var 2))) sss_nil)
 (sss_cons (ss_if (st_w (sw_or (st_eq hu64 (se_ix hu (se_var 1) se_int) se_str) (sw_or (st_eq hu64 (se_ix hu (se_var 1) se_int) se_str) (sw_or1 (st_eq hu64 (se_ix hu (se_var 1) se_int) se_str))))) (sss_one (ss_ret (se_add false (se_var 2) (se_lst false (sa_cons se_str sa_nil))))) sss_nil)
 (sss_one (ss_ret (se_add false (se_var 2) (se_lst false (sa_cons se_str sa_nil))))))))))
theorem sc_next : FnScope n_next ["_law_told_here", "_law_kinds_here", "_law_row"] (defScope (top 26)) := ⟨rfl, rfl, rfl, by decide +kernel, rfl, by decide +kernel, by decide +kernel⟩
theorem d_next (T : Txt w K mg P tW tP aS) (hx : P.xa = none) (C__law_lack : Cal Pg w K mg base P "_law_lack" 2 1 s_lack_2) (C__law_called : Cal Pg w K mg base P "_law_called" 3 2 s_called) (C__law_wanted : Cal Pg w K mg base P "_law_wanted" 1 1 s_wanted) (C__law_plainly : Cal Pg w K mg base P "_law_plainly" 2 2 s_plainly_2) {f : Addr} {fd : FuncData} (F : L2.Fun K "_law_next" "_law_next" (top 26) f fd) : FnOk Pg w K mg base (L2.CX Pg w) 3 f fd ["_law_told_here", "_law_kinds_here", "_law_row"] (spF K P 3 s_next) :=
  okF (N := n_next) (body := b_next) (a := 3) (n := 4) F sc_next rfl rfl hx fun cdv A outer s H E hr tk hp =>
  have hu : _ + 1 < cLine := hu_of hr
  have hu64 : _ + 64 < cLine := hr.units
(sss_cons (ss_if (st_eq hu64 (se_ix hu (se_var 2) se_int) se_str) (sss_cons (ss_if (st_notIn hu (se_ix hu (se_var 2) se_int) (se_var 0)) (sss_one (ss_ret (se_tup (sa_cons se_str (sa_cons (se_var 1) sa_nil))))) sss_nil)
 (sss_one (ss_ret (se_call C__law_called A_called (hr.mono (by decide)) rfl tk (sa_cons (se_var 0) (sa_cons (se_var 1) (sa_cons (se_ix hu (se_var 2) se_int) sa_nil))))))) sss_nil)
 (sss_cons (ss_if (st_eq hu64 (se_ix hu (se_var 2) se_int) se_str) (sss_cons (ss_asg (i := 3) sc_next.nd rfl (Or.inl rfl) (se_call C__law_lack A_lack_2 (hr.mono (by decide)) rfl tk (sa_cons (se_var 1) (sa_cons (se_lst false (sa_cons se_str sa_nil)) sa_nil))))
 (sss_cons (ss_if (st_ne hu64 (se_var 3) se_str) (sss_one (ss_ret (se_tup (sa_cons (se_var 3) (sa_cons (se_var 1) sa_nil))))) sss_nil)
 (sss_cons (ss_if (st_w (sw_or (st_notIn hu (se_ix hu (se_var 2) se_int) (se_var 0)) (sw_or1 (st_notIn hu (se_ix hu (se_var 2) se_int) (se_var 0))))) (sss_one (ss_ret (se_tup (sa_cons se_str (sa_cons (se_var 1) sa_nil))))) sss_nil)
 (sss_cons (ss_if (st_w (sw_or (st_ne hu64 (se_ix hu (se_ix hu (se_var 0) (se_ix hu (se_var 2) se_int)) se_int) (se_ix hu (se_ix hu (se_var 0) (se_ix hu (se_var 2) se_int)) se_int)) (sw_or1 (st_ne hu64 (se_ix hu (se_ix hu (se_var 0) (se_ix hu (se_var 2) se_int)) se_int) (se_ix hu (se_ix hu (se_var 0) (se_ix hu (se_var 2) se_int)) se_int))))) (sss_one (ss_ret (se_tup (sa_cons se_str (sa_cons (se_var 1) sa_nil))))) sss_nil)
 (sss_one (ss_ret (se_call C__law_called A_called (hr.mono (by decide)) rfl tk (sa_cons (se_var 0) (sa_cons (se_slice false (se_var 1) so_none (so_some (se_neg se_int))) (sa_cons (se_ix hu (se_var 2) se_int) sa_nil)))))))))) sss_nil)
 (sss_cons (ss_asg (i := 3) sc_next.nd rfl (Or.inl rfl) (se_call C__law_lack A_lack_2 (hr.mono (by decide)) rfl tk (sa_cons (se_var 1) (sa_cons (se_call C__law_wanted A_wanted (hr.mono (by decide)) rfl tk (sa_cons (se_var 2) sa_nil)) sa_nil))))
 (sss_cons (ss_if (st_ne hu64 (se_var 3) se_str) (sss_one (ss_ret (se_tup (sa_cons (se_var 3) (sa_cons (se_var 1) sa_nil))))) sss_nil)
 (sss_one (ss_ret (se_tup (sa_cons se_str (sa_cons (se_call C__law_plainly A_plainly_2 (hr.mono (by decide)) rfl tk (sa_cons (se_var 1) (sa_cons (se_var 2) sa_nil))) sa_nil)))))))))
theorem sc_good_rows : FnScope n_good_rows ["_law_script", "_law_tape", "_law_told_here", "_law_name", "_law_names"] (defScope (top 33)) := ⟨rfl, rfl, rfl, by decide +kernel, rfl, by decide +kernel, by decide +kernel⟩
theorem d_good_rows (T : Txt w K mg P tW tP aS) (hx : P.xa = none) (C__law_draw : Cal Pg w K mg base P "_law_draw" 3 1 s_draw) (C__law_fitting : Cal Pg w K mg base P "_law_fitting" 5 5 s_fitting) (C__law_pushes : Cal Pg w K mg base P "_law_pushes" 3 3 s_pushes) (C__law_next : Cal Pg w K mg base P "_law_next" 3 3 s_next) {f : Addr} {fd : FuncData} (F : L2.Fun K "_law_good_rows" "_law_good_rows" (top 33) f fd) : FnOk Pg w K mg base (L2.CX Pg w) 6 f fd ["_law_script", "_law_tape", "_law_told_here", "_law_name", "_law_names"] (spF K P 5 s_good_rows) :=
  okF (N := n_good_rows) (body := b_good_rows) (a := 5) (n := 13) F sc_good_rows rfl rfl hx fun cdv A outer s H E hr tk hp =>
  have hu : _ + 1 < cLine := hu_of hr
  have hu64 : _ + 64 < cLine := hr.units
(sss_cons (ss_asgT rfl sc_good_rows.nd (.cons (i := 5) rfl (Or.inl rfl) (by first | exact .inl rfl | exact .inr rfl) rfl (.cons (i := 6) rfl (Or.inr rfl) (by first | exact .inl rfl | exact .inr rfl) rfl .nil)) (se_ix hu (se_var 2) (se_var 3)))
 (sss_cons (ss_asg (i := 7) sc_good_rows.nd rfl (Or.inl rfl) (se_list false rfl rfl T.b_list (sa_cons (se_var 5) sa_nil)))
 (sss_cons (ss_asg (i := 8) sc_good_rows.nd rfl (Or.inl rfl) (se_lst true sa_nil))
 (sss_cons (ss_for hp rfl (si_rng rfl T.b_range (se_call C__law_draw A_draw (hr.mono (by decide)) rfl tk (sa_cons (se_var 0) (sa_cons (se_var 1) (sa_cons se_int sa_nil))))) (.name (i := 9) sc_good_rows.nd rfl (Or.inl rfl) (by first | exact .inl rfl | exact .inr rfl)) (sss_one (ss_for hp rfl (si_it (se_call C__law_fitting A_fitting (hr.mono (by decide)) rfl tk (sa_cons (se_var 0) (sa_cons (se_var 1) (sa_cons (se_var 2) (sa_cons (se_var 4) (sa_cons (se_var 7) sa_nil))))))) (.name (i := 10) sc_good_rows.nd rfl (Or.inl rfl) (by first | exact .inl rfl | exact .inr rfl)) (sss_cons (ss_asg (i := 7) sc_good_rows.nd rfl (Or.inl rfl) (se_ix hu (se_call C__law_next A_next (hr.mono (by decide)) rfl tk (sa_cons (se_var 2) (sa_cons (se_var 7) (sa_cons (se_var 10) sa_nil)))) se_int))
 (sss_one (ss_exp (se_append (se_var 8) (sa_cons (se_var 10) sa_nil))))))))
 (sss_cons (ss_asgLc false rfl sc_good_rows.nd (iy := 11) rfl rfl (sw_true rfl rfl rfl (by decide +kernel)) (si_it (se_var 4)) (blkOk_by (own := [("_law_other", 12)]) (N := n_good_rows) (sc := defScope (top 33)) (by decide +kernel)) (fun _ _ _ _ _ => pg_name (i := 12) sc_good_rows.nd rfl (Or.inl rfl)) (fun _ _ _ _ _ => spts_one (st_eq hu64 (se_ix hu (se_ix hu (se_var 2) (se_var 12)) se_int) (se_var 6))) (fun _ _ _ _ _ => (se_var 12)))
 (sss_cons (ss_if (st_w (sw_and (st_cmp op_gt bo_cmp (se_len rfl T.b_len (sa_cons (se_var 11) sa_nil)) se_int) (sw_and1 (st_eq hu64 (se_call C__law_draw A_draw (hr.mono (by decide)) rfl tk (sa_cons (se_var 0) (sa_cons (se_var 1) (sa_cons se_int sa_nil)))) se_int)))) (sss_cons (ss_asg (i := 12) sc_good_rows.nd rfl (Or.inl rfl) (se_ix hu (se_var 11) (se_mod (se_call C__law_draw A_draw (hr.mono (by decide)) rfl tk (sa_cons (se_var 0) (sa_cons (se_var 1) (sa_cons se_int sa_nil)))) (se_len rfl T.b_len (sa_cons (se_var 11) sa_nil)))))
 (sss_cons (ss_asg (i := 8) sc_good_rows.nd rfl (Or.inl rfl) (se_add true (se_var 8) (se_mul false (se_lst false (sa_cons (se_tup (sa_cons se_str sa_nil)) sa_nil)) (se_len rfl T.b_len (sa_cons (se_var 7) sa_nil)))))
 (sss_one (ss_ret (se_add false (se_add false (se_var 8) (se_call C__law_pushes A_pushes (hr.mono (by decide)) rfl tk (sa_cons (se_var 0) (sa_cons (se_var 1) (sa_cons (se_ix hu (se_ix hu (se_var 2) (se_var 12)) se_int) sa_nil))))) (se_lst false (sa_cons (se_tup (sa_cons se_str (sa_cons (se_var 12) sa_nil))) sa_nil))))))) sss_nil)
 (sss_cons (ss_while 1000000 hp (st_ne hu64 (se_tuple rfl T.b_tuple (sa_cons (se_var 7) sa_nil)) (se_slice false (se_var 6) so_none (so_some (se_len rfl T.b_len (sa_cons (se_var 7) sa_nil))))) (sss_cons (ss_asg (i := 7) sc_good_rows.nd rfl (Or.inl rfl) (se_slice false (se_var 7) so_none (so_some (se_neg se_int))))
 (sss_one (ss_exp (se_append (se_var 8) (sa_cons (se_tup (sa_cons se_str sa_nil)) sa_nil))))))
 (sss_one (ss_ret (se_add false (se_var 8) (se_call C__law_pushes A_pushes (hr.mono (by decide)) rfl tk (sa_cons (se_var 0) (sa_cons (se_var 1) (sa_cons (se_slice false (se_var 6) (so_some (se_len rfl T.b_len (sa_cons (se_var 7) sa_nil))) so_none) sa_nil))))))))))))))
theorem sc_good_program : FnScope n_good_program ["_law_script", "_law_tape"] (defScope (top 34)) := ⟨rfl, rfl, rfl, by decide +kernel, rfl, by decide +kernel, by decide +kernel⟩
theorem d_good_program (T : Txt w K mg P tW tP aS) (hx : P.xa = none) (C__law_told : Cal Pg w K mg base P "_law_told" 2 3 s_told_3) (C__law_draw : Cal Pg w K mg base P "_law_draw" 3 1 s_draw) (C__law_good_rows : Cal Pg w K mg base P "_law_good_rows" 5 6 s_good_rows) {f : Addr} {fd : FuncData} (F : L2.Fun K "_law_good_program" "_law_good_program" (top 34) f fd) : FnOk Pg w K mg base (L2.CX Pg w) 7 f fd ["_law_script", "_law_tape"] (spF K P 2 s_good_program) :=
  okF (N := n_good_program) (body := b_good_program) (a := 2) (n := 9) F sc_good_program rfl rfl hx fun cdv A outer s H E hr tk hp =>
  have hu : _ + 1 < cLine := hu_of hr
  have hu64 : _ + 64 < cLine := hr.units
(sss_cons (ss_asg (i := 2) sc_good_program.nd rfl (Or.inl rfl) (se_fr (se_call C__law_told A_told_3 (hr.mono (by decide)) rfl tk (sa_cons (se_var 0) (sa_cons (se_var 1) sa_nil)))))
 (sss_cons (ss_asg (i := 3) sc_good_program.nd rfl (Or.inl rfl) (se_list false rfl rfl T.b_list (sa_cons (se_var 2) sa_nil)))
 (sss_cons (ss_asg (i := 4) sc_good_program.nd rfl (Or.inl rfl) (se_call C__law_draw A_draw (hr.mono (by decide)) rfl tk (sa_cons (se_var 0) (sa_cons (se_var 1) (sa_cons se_int sa_nil)))))
 (sss_cons (ss_asg (i := 5) sc_good_program.nd rfl (Or.inl rfl) (se_dnew true))
 (sss_cons (ss_for hp rfl (si_rng rfl T.b_range (se_len rfl T.b_len (sa_cons (se_var 3) sa_nil))) (.name (i := 6) sc_good_program.nd rfl (Or.inl rfl) (by first | exact .inl rfl | exact .inr rfl)) (sss_cons (ss_asg (i := 7) sc_good_program.nd rfl (Or.inl rfl) (se_var 3))
 (sss_cons (ss_if (st_eq hu64 (se_var 4) se_int) (sss_one (ss_asg (i := 7) sc_good_program.nd rfl (Or.inl rfl) (se_slice false (se_var 3) (so_some (se_add false (se_var 6) se_int)) so_none))) sss_nil)
 (sss_cons (ss_asg (i := 8) sc_good_program.nd rfl (Or.inl rfl) (se_call C__law_good_rows A_good_rows (hr.mono (by decide)) rfl tk (sa_cons (se_var 0) (sa_cons (se_var 1) (sa_cons (se_var 2) (sa_cons (se_ix hu (se_var 3) (se_var 6)) (sa_cons (se_var 7) sa_nil)))))))
 (sss_one (ss_setD hu (se_var 5) (se_ix hu (se_var 3) (se_var 6)) (se_tup (sa_cons (se_ix hu (se_ix hu (se_var 2) (se_ix hu (se_var 3) (se_var 6))) se_int) (sa_cons (se_ix hu (se_ix hu (se_var 2) (se_ix hu (se_var 3) (se_var 6))) se_int) (sa_cons (se_var 8) sa_nil))))))))))
 (sss_one (ss_ret (se_var 5))))))))
theorem sc_walked : FnScope n_walked ["_law_program", "_law_name"] (defScope (top 38)) := ⟨rfl, rfl, rfl, by decide +kernel, rfl, by decide +kernel, by decide +kernel⟩
theorem d_walked (T : Txt w K mg P tW tP aS) (hx : P.xa = none) (C__law_next : Cal Pg w K mg base P "_law_next" 3 3 s_next) {f : Addr} {fd : FuncData} (F : L2.Fun K "_law_walked" "_law_walked" (top 38) f fd) : FnOk Pg w K mg base (L2.CX Pg w) 4 f fd ["_law_program", "_law_name"] (spF K P 2 s_walked) :=
  okF (N := n_walked) (body := b_walked) (a := 2) (n := 9) F sc_walked rfl rfl hx fun cdv A outer s H E hr tk hp =>
  have hu : _ + 1 < cLine := hu_of hr
  have hu64 : _ + 64 < cLine := hr.units
(sss_cons (ss_asgT rfl sc_walked.nd (.cons (i := 2) rfl (Or.inl rfl) (by first | exact .inl rfl | exact .inr rfl) rfl (.cons (i := 3) rfl (Or.inl rfl) (by first | exact .inl rfl | exact .inr rfl) rfl (.cons (i := 4) rfl (Or.inl rfl) (by first | exact .inl rfl | exact .inr rfl) rfl .nil))) (se_ix hu (se_var 0) (se_var 1)))
 (sss_cons (ss_asg (i := 5) sc_walked.nd rfl (Or.inl rfl) (se_lst true (sa_cons (se_var 2) sa_nil)))
 (sss_cons (ss_for hp rfl (si_it (se_var 4)) (.name (i := 6) sc_walked.nd rfl (Or.inl rfl) (by first | exact .inl rfl | exact .inr rfl)) (sss_cons (ss_asgT rfl sc_walked.nd (.cons (i := 7) rfl (Or.inl rfl) (by first | exact .inl rfl | exact .inr rfl) rfl (.cons (i := 8) rfl (Or.inl rfl) (by first | exact .inl rfl | exact .inr rfl) rfl .nil)) (se_call C__law_next A_next (hr.mono (by decide)) rfl tk (sa_cons (se_var 0) (sa_cons (se_list false rfl rfl T.b_list (sa_cons (se_ix hu (se_var 5) (se_neg se_int)) sa_nil)) (sa_cons (se_var 6) sa_nil)))))
 (sss_cons (ss_if (st_ne hu64 (se_var 7) se_str) (sss_one (ss_ret (se_tup (sa_cons (se_var 5) (sa_cons (se_var 7) sa_nil))))) sss_nil)
 (sss_one (ss_exp (se_append (se_var 5) (sa_cons (se_tuple rfl T.b_tuple (sa_cons (se_var 8) sa_nil)) sa_nil)))))))
 (sss_cons (ss_if (st_ne hu64 (se_ix hu (se_var 5) (se_neg se_int)) (se_var 3)) (sss_one (ss_ret (se_tup (sa_cons (se_var 5) (sa_cons se_str sa_nil))))) sss_nil)
 (sss_one (ss_ret (se_tup (sa_cons (se_var 5) (sa_cons se_str sa_nil)))))))))
theorem sc_forged : FnScope n_forged ["_law_script", "_law_tape", "_law_trail"] (defScope (top 39)) := ⟨rfl, rfl, rfl, by decide +kernel, rfl, by decide +kernel, by decide +kernel⟩
theorem d_forged (T : Txt w K mg P tW tP aS) (hx : P.xa = none) (C__law_draw : Cal Pg w K mg base P "_law_draw" 3 1 s_draw) {f : Addr} {fd : FuncData} (F : L2.Fun K "_law_forged" "_law_forged" (top 39) f fd) : FnOk Pg w K mg base (L2.CX Pg w) 2 f fd ["_law_script", "_law_tape", "_law_trail"] (spF K P 3 s_forged) :=
  okF (N := n_forged) (body := b_forged) (a := 3) (n := 8) F sc_forged rfl rfl hx fun cdv A outer s H E hr tk hp =>
  have hu : _ + 1 < cLine := hu_of hr
  have hu64 : _ + 64 < cLine := hr.units
(sss_cons (ss_asg (i := 3) sc_forged.nd rfl (Or.inl rfl) (se_call C__law_draw A_draw (hr.mono (by decide)) rfl tk (sa_cons (se_var 0) (sa_cons (se_var 1) (sa_cons se_int sa_nil)))))
 (sss_cons (ss_asg (i := 4) sc_forged.nd rfl (Or.inl rfl) (se_mod (se_call C__law_draw A_draw (hr.mono (by decide)) rfl tk (sa_cons (se_var 0) (sa_cons (se_var 1) (sa_cons se_int sa_nil)))) (se_len rfl T.b_len (sa_cons (se_var 2) sa_nil))))
 (sss_cons (ss_asg (i := 5) sc_forged.nd rfl (Or.inl rfl) (se_ix hu (se_var 2) (se_var 4)))
 (sss_cons (ss_if (st_eq hu64 (se_var 3) se_int) (sss_one (ss_ret (se_lst true sa_nil))) sss_nil)
 (sss_cons (ss_if (st_eq hu64 (se_var 3) se_int) (sss_one (ss_ret (se_add true (se_slice false (se_var 2) so_none (so_some (se_var 4))) (se_slice false (se_var 2) (so_some (se_add false (se_var 4) se_int)) so_none)))) sss_nil)
 (sss_cons (ss_if (st_eq hu64 (se_var 3) se_int) (sss_one (ss_ret (se_add true (se_add false (se_slice false (se_var 2) so_none (so_some (se_var 4))) (se_lst false (sa_cons (se_var 5) sa_nil))) (se_slice false (se_var 2) (so_some (se_var 4)) so_none)))) sss_nil)
 (sss_cons (ss_if (st_eq hu64 (se_var 3) se_int) (sss_one (ss_ret (se_add true (se_add false (se_slice false (se_var 2) so_none (so_some (se_var 4))) (se_lst false (sa_cons (se_slice false (se_var 5) (so_some se_int) so_none) sa_nil))) (se_slice false (se_var 2) (so_some (se_add false (se_var 4) se_int)) so_none)))) sss_nil)
 (sss_cons (ss_if (st_eq hu64 (se_var 3) se_int) (sss_one (ss_ret (se_add true (se_add false (se_slice false (se_var 2) so_none (so_some (se_var 4))) (se_lst false (sa_cons (se_add false (se_var 5) (se_tup (sa_cons (se_ix hu (se_lst false (sa_cons se_str (sa_cons se_str sa_nil))) (se_call C__law_draw A_draw (hr.mono (by decide)) rfl tk (sa_cons (se_var 0) (sa_cons (se_var 1) (sa_cons se_int sa_nil))))) sa_nil))) sa_nil))) (se_slice false (se_var 2) (so_some (se_add false (se_var 4) se_int)) so_none)))) sss_nil)
 (sss_cons (ss_if (st_w (sw_and (st_eq hu64 (se_var 3) se_int) (sw_and1 (st_cmp op_gt bo_cmp (se_len rfl T.b_len (sa_cons (se_var 5) sa_nil)) se_int)))) (sss_cons (ss_asg (i := 6) sc_forged.nd rfl (Or.inl rfl) (se_mod (se_call C__law_draw A_draw (hr.mono (by decide)) rfl tk (sa_cons (se_var 0) (sa_cons (se_var 1) (sa_cons se_int sa_nil)))) (se_len rfl T.b_len (sa_cons (se_var 5) sa_nil))))
 (sss_cons (ss_asg (i := 7) sc_forged.nd rfl (Or.inl rfl) (se_ix hu (se_lst false (sa_cons se_str (sa_cons se_str sa_nil))) (se_intc rfl T.b_int (sa_cons (se_eq hu64 (se_ix hu (se_var 5) (se_var 6)) se_str) sa_nil))))
 (sss_one (ss_ret (se_add true (se_add false (se_slice false (se_var 2) so_none (so_some (se_var 4))) (se_lst false (sa_cons (se_add false (se_add false (se_slice false (se_var 5) so_none (so_some (se_var 6))) (se_tup (sa_cons (se_var 7) sa_nil))) (se_slice false (se_var 5) (so_some (se_add false (se_var 6) se_int)) so_none)) sa_nil))) (se_slice false (se_var 2) (so_some (se_add false (se_var 4) se_int)) so_none)))))) sss_nil)
 (sss_cons (ss_if (st_eq hu64 (se_var 3) se_int) (sss_one (ss_ret (se_rev true (se_var 2)))) sss_nil)
 (sss_one (ss_ret (se_var 2)))))))))))))
theorem sc_copy : FnScope n_copy ["_law_program"] (defScope (top 37)) := ⟨rfl, rfl, rfl, by decide +kernel, rfl, by decide +kernel, by decide +kernel⟩
theorem d_copy (T : Txt w K mg P tW tP aS) (hx : P.xa = none)  {f : Addr} {fd : FuncData} (F : L2.Fun K "_law_copy" "_law_copy" (top 37) f fd) : FnOk Pg w K mg base (L2.CX Pg w) 1 f fd ["_law_program"] (spF K P 1 s_copy) :=
  okF (N := n_copy) (body := b_copy) (a := 1) (n := 3) F sc_copy rfl rfl hx fun cdv A outer s H E hr tk hp =>
  have hu : _ + 1 < cLine := hu_of hr
  have hu64 : _ + 64 < cLine := hr.units
(sss_cons (ss_asg (i := 1) sc_copy.nd rfl (Or.inl rfl) (se_dnew true))
 (sss_cons (ss_for hp rfl (si_it (se_list false rfl rfl T.b_list (sa_cons (se_var 0) sa_nil))) (.name (i := 2) sc_copy.nd rfl (Or.inl rfl) (by first | exact .inl rfl | exact .inr rfl)) (sss_one (ss_setD hu (se_var 1) (se_var 2) (se_tup (sa_cons (se_ix hu (se_ix hu (se_var 0) (se_var 2)) se_int) (sa_cons (se_ix hu (se_ix hu (se_var 0) (se_var 2)) se_int) (sa_cons (se_list false rfl rfl T.b_list (sa_cons (se_ix hu (se_ix hu (se_var 0) (se_var 2)) se_int) sa_nil)) sa_nil)))))))
 (sss_one (ss_ret (se_var 1)))))
theorem sc_p_wants : FnScope n_p_wants ["row"] (defScope (top 8)) := ⟨rfl, rfl, rfl, by decide +kernel, rfl, by decide +kernel, by decide +kernel⟩
theorem d_p_wants (T : Txt w K mg P tW tP aS) (hx : P.xa = none)  {f : Addr} {fd : FuncData} (F : L2.Fun K "wants" "wants" (top 8) f fd) : FnOk Pg w K mg base (L2.CX Pg w) 1 f fd ["row"] (spF K P 1 s_p_wants) :=
  okF (N := n_p_wants) (body := b_p_wants) (a := 1) (n := 1) F sc_p_wants rfl rfl hx fun cdv A outer s H E hr tk hp =>
  have hu : _ + 1 < cLine := hu_of hr
  have hu64 : _ + 64 < cLine := hr.units
(sss_cons (ss_if (st_eq hu64 (se_ix hu (se_var 0) se_int) se_str) (sss_one (ss_ret (se_mul false (se_tup (sa_cons se_non sa_nil)) (se_add false (se_ix hu (se_var 0) se_int) se_int)))) sss_nil)
 (sss_one (ss_ret (se_tab rfl T.g_WANTS T.t_WANTS (se_ix hu (se_var 0) se_int)))))
theorem sc_p_need : FnScope n_p_need ["kinds", "wanted"] (defScope (top 9)) := ⟨rfl, rfl, rfl, by decide +kernel, rfl, by decide +kernel, by decide +kernel⟩
theorem d_p_need (T : Txt w K mg P tW tP aS) (hx : P.xa = none)  {f : Addr} {fd : FuncData} (F : L2.Fun K "need" "need" (top 9) f fd) : FnOk Pg w K mg base (L2.CX Pg w) 1 f fd ["kinds", "wanted"] (spF K P 2 s_p_need) :=
  okF (N := n_p_need) (body := b_p_need) (a := 2) (n := 4) F sc_p_need rfl rfl hx fun cdv A outer s H E hr tk hp =>
  have hu : _ + 1 < cLine := hu_of hr
  have hu64 : _ + 64 < cLine := hr.units
(sss_cons (ss_if (st_cmp op_lt bo_cmp (se_len rfl T.b_len (sa_cons (se_var 0) sa_nil)) (se_len rfl T.b_len (sa_cons (se_var 1) sa_nil))) (sss_one (ss_raise rfl tk T.x_Empty rfl)) sss_nil)
 (sss_one (ss_for hp rfl (si_zip rfl T.b_zip (se_slice false (se_var 0) (so_some (se_sub (se_len rfl T.b_len (sa_cons (se_var 0) sa_nil)) (se_len rfl T.b_len (sa_cons (se_var 1) sa_nil)))) so_none) (se_var 1)) (.pair rfl sc_p_need.nd (.cons (i := 2) rfl (Or.inl rfl) (by first | exact .inl rfl | exact .inr rfl) rfl (.cons (i := 3) rfl (Or.inl rfl) (by first | exact .inl rfl | exact .inr rfl) rfl .nil)) rfl rfl) (sss_one (ss_if (st_w (sw_and (st_cmp op_notN bo_notN (se_var 3) se_non) (sw_and1 (st_ne hu64 (se_var 2) (se_var 3))))) (sss_one (ss_raise rfl tk T.x_WrongKind rfl)) sss_nil)))))
theorem sc_p_plainly : FnScope n_p_plainly ["kinds", "row"] (defScope (top 12)) := ⟨rfl, rfl, rfl, by decide +kernel, rfl, by decide +kernel, by decide +kernel⟩
theorem d_p_plainly (T : Txt w K mg P tW tP aS) (hx : P.xa = none) (C_wants : Cal Pg w K mg base P "wants" 1 1 s_p_wants) (C_need : Cal Pg w K mg base P "need" 2 1 s_p_need) {f : Addr} {fd : FuncData} (F : L2.Fun K "plainly" "plainly" (top 12) f fd) : FnOk Pg w K mg base (L2.CX Pg w) 2 f fd ["kinds", "row"] (spF K P 2 s_p_plainly) :=
  okF (N := n_p_plainly) (body := b_p_plainly) (a := 2) (n := 4) F sc_p_plainly rfl rfl hx fun cdv A outer s H E hr tk hp =>
  have hu : _ + 1 < cLine := hu_of hr
  have hu64 : _ + 64 < cLine := hr.units
(sss_cons (ss_asg (i := 2) sc_p_plainly.nd rfl (Or.inl rfl) (se_call C_wants A_p_wants (hr.mono (by decide)) rfl tk (sa_cons (se_var 1) sa_nil)))
 (sss_cons (ss_exp (se_call C_need A_p_need (hr.mono (by decide)) rfl tk (sa_cons (se_var 0) (sa_cons (se_var 2) sa_nil))))
 (sss_cons (ss_if (st_eq hu64 (se_ix hu (se_var 1) se_int) se_str) (sss_one (ss_ret (se_add false (se_var 0) (se_tup (sa_cons (se_ix hu (se_var 0) (se_sub (se_sub (se_len rfl T.b_len (sa_cons (se_var 0) sa_nil)) se_int) (se_ix hu (se_var 1) se_int))) sa_nil))))) sss_nil)
 (sss_cons (ss_asg (i := 3) sc_p_plainly.nd rfl (Or.inl rfl) (se_slice false (se_var 0) so_none (so_some (se_sub (se_len rfl T.b_len (sa_cons (se_var 0) sa_nil)) (se_len rfl T.b_len (sa_cons (se_var 2) sa_nil))))))
 (sss_cons (ss_if (st_eq hu64 (se_ix hu (se_var 1) se_int) se_str) (sss_one (ss_ret (se_var 3))) sss_nil)
 (sss_cons (ss_if (st_eq hu64 (se_ix hu (se_var 1) se_int) se_str) (sss_one (ss_ret (se_add false (se_var 3) (se_tup (sa_cons (se_ix hu (se_var 0) (se_neg se_int)) (sa_cons (se_ix hu (se_var 0) (se_neg se_int)) sa_nil)))))) sss_nil)
 (sss_one (ss_ret (se_add false (se_var 3) (se_tab rfl T.g_PUTS T.t_PUTS (se_ix hu (se_var 1) se_int)))))))))))
theorem sc_p_called : FnScope n_p_called ["kinds", "block"] (defScope (top 13)) := ⟨rfl, rfl, rfl, by decide +kernel, rfl, by decide +kernel, by decide +kernel⟩
theorem d_p_called (T : Txt w K mg P tW tP aS) (hx : P.xa = none) (C_need : Cal Pg w K mg base P "need" 2 1 s_p_need) {f : Addr} {fd : FuncData} (F : L2.Fun K "called" "called" (top 13) f fd) : FnOk Pg w K mg base (L2.CX Pg w) 2 f fd ["kinds", "block"] (spF K P 2 s_p_called) :=
  okF (N := n_p_called) (body := b_p_called) (a := 2) (n := 2) F sc_p_called rfl rfl hx fun cdv A outer s H E hr tk hp =>
  have hu : _ + 1 < cLine := hu_of hr
  have hu64 : _ + 64 < cLine := hr.units
(sss_cons (ss_exp (se_call C_need A_p_need (hr.mono (by decide)) rfl tk (sa_cons (se_var 0) (sa_cons (se_ix hu (se_var 1) se_int) sa_nil))))
 (sss_one (ss_ret (se_add false (se_slice false (se_var 0) so_none (so_some (se_sub (se_len rfl T.b_len (sa_cons (se_var 0) sa_nil)) (se_len rfl T.b_len (sa_cons (se_ix hu (se_var 1) se_int) sa_nil))))) (se_ix hu (se_var 1) se_int)))))
theorem sc_p_block_of : FnScope n_p_block_of ["program", "name"] (defScope (top 14)) := ⟨rfl, rfl, rfl, by decide +kernel, rfl, by decide +kernel, by decide +kernel⟩
theorem d_p_block_of (T : Txt w K mg P tW tP aS) (hx : P.xa = none)  {f : Addr} {fd : FuncData} (F : L2.Fun K "block_of" "block_of" (top 14) f fd) : FnOk Pg w K mg base (L2.CX Pg w) 1 f fd ["program", "name"] (spF K P 2 s_p_block_of) :=
  okF (N := n_p_block_of) (body := b_p_block_of) (a := 2) (n := 2) F sc_p_block_of rfl rfl hx fun cdv A outer s H E hr tk hp =>
  have hu : _ + 1 < cLine := hu_of hr
  have hu64 : _ + 64 < cLine := hr.units
(sss_cons (ss_if (st_notIn hu (se_var 1) (se_var 0)) (sss_one (ss_raise rfl tk T.x_NoBlock rfl)) sss_nil)
 (sss_one (ss_ret (se_ix hu (se_var 0) (se_var 1)))))
theorem sc_p_behind : FnScope n_p_behind ["program", "kinds", "row"] (defScope (top 15)) := ⟨rfl, rfl, rfl, by decide +kernel, rfl, by decide +kernel, by decide +kernel⟩
theorem d_p_behind (T : Txt w K mg P tW tP aS) (hx : P.xa = none) (C_plainly : Cal Pg w K mg base P "plainly" 2 2 s_p_plainly) (C_called : Cal Pg w K mg base P "called" 2 2 s_p_called) (C_need : Cal Pg w K mg base P "need" 2 1 s_p_need) (C_block_of : Cal Pg w K mg base P "block_of" 2 1 s_p_block_of) {f : Addr} {fd : FuncData} (F : L2.Fun K "behind" "behind" (top 15) f fd) : FnOk Pg w K mg base (L2.CX Pg w) 3 f fd ["program", "kinds", "row"] (spF K P 3 s_p_behind) :=
  okF (N := n_p_behind) (body := b_p_behind) (a := 3) (n := 5) F sc_p_behind rfl rfl hx fun cdv A outer s H E hr tk hp =>
  have hu : _ + 1 < cLine := hu_of hr
  have hu64 : _ + 64 < cLine := hr.units
(sss_cons (ss_if (st_eq hu64 (se_ix hu (se_var 2) se_int) se_str) (sss_one (ss_ret (se_call C_called A_p_called (hr.mono (by decide)) rfl tk (sa_cons (se_var 1) (sa_cons (se_call C_block_of A_p_block_of (hr.mono (by decide)) rfl tk (sa_cons (se_var 0) (sa_cons (se_ix hu (se_var 2) se_int) sa_nil))) sa_nil))))) sss_nil)
 (sss_cons (ss_if (st_eq hu64 (se_ix hu (se_var 2) se_int) se_str) (sss_cons (ss_exp (se_call C_need A_p_need (hr.mono (by decide)) rfl tk (sa_cons (se_var 1) (sa_cons (se_tup (sa_cons se_str sa_nil)) sa_nil))))
 (sss_cons (ss_asg (i := 3) sc_p_behind.nd rfl (Or.inl rfl) (se_call C_block_of A_p_block_of (hr.mono (by decide)) rfl tk (sa_cons (se_var 0) (sa_cons (se_ix hu (se_var 2) se_int) sa_nil))))
 (sss_cons (ss_asg (i := 4) sc_p_behind.nd rfl (Or.inl rfl) (se_call C_block_of A_p_block_of (hr.mono (by decide)) rfl tk (sa_cons (se_var 0) (sa_cons (se_ix hu (se_var 2) se_int) sa_nil))))
 (sss_cons (ss_if (st_w (sw_or (st_ne hu64 (se_ix hu (se_var 3) se_int) (se_ix hu (se_var 4) se_int)) (sw_or1 (st_ne hu64 (se_ix hu (se_var 3) se_int) (se_ix hu (se_var 4) se_int))))) (sss_one (ss_raise rfl tk T.x_Apart rfl)) sss_nil)
 (sss_one (ss_ret (se_call C_called A_p_called (hr.mono (by decide)) rfl tk (sa_cons (se_slice false (se_var 1) so_none (so_some (se_neg se_int))) (sa_cons (se_var 3) sa_nil))))))))) sss_nil)
 (sss_one (ss_ret (se_call C_plainly A_p_plainly (hr.mono (by decide)) rfl tk (sa_cons (se_var 1) (sa_cons (se_var 2) sa_nil)))))))
theorem sc_p_holds : FnScope n_p_holds ["program", "name", "trail"] (defScope (top 17)) := ⟨rfl, rfl, rfl, by decide +kernel, rfl, by decide +kernel, by decide +kernel⟩
theorem d_p_holds (T : Txt w K mg P tW tP aS) (hx : P.xa = none) (C_behind : Cal Pg w K mg base P "behind" 3 3 s_p_behind) {f : Addr} {fd : FuncData} (F : L2.Fun K "holds" "holds" (top 17) f fd) : FnOk Pg w K mg base (L2.CX Pg w) 4 f fd ["program", "name", "trail"] (spF K P 3 s_p_holds) :=
  okF (N := n_p_holds) (body := b_p_holds) (a := 3) (n := 7) F sc_p_holds rfl rfl hx fun cdv A outer s H E hr tk hp =>
  have hu : _ + 1 < cLine := hu_of hr
  have hu64 : _ + 64 < cLine := hr.units
(sss_cons (ss_asgT rfl sc_p_holds.nd (.cons (i := 3) rfl (Or.inl rfl) (by first | exact .inl rfl | exact .inr rfl) rfl (.cons (i := 4) rfl (Or.inl rfl) (by first | exact .inl rfl | exact .inr rfl) rfl (.cons (i := 5) rfl (Or.inl rfl) (by first | exact .inl rfl | exact .inr rfl) rfl .nil))) (se_ix hu (se_var 0) (se_var 1)))
 (sss_cons (ss_if (st_w (sw_or (st_ne hu64 (se_len rfl T.b_len (sa_cons (se_var 2) sa_nil)) (se_add false (se_len rfl T.b_len (sa_cons (se_var 5) sa_nil)) se_int)) (sw_or (st_ne hu64 (se_ix hu (se_var 2) se_int) (se_var 3)) (sw_or1 (st_ne hu64 (se_ix hu (se_var 2) (se_neg se_int)) (se_var 4)))))) (sss_one (ss_ret se_bl)) sss_nil)
 (sss_cons (ss_for hp rfl (si_rng rfl T.b_range (se_len rfl T.b_len (sa_cons (se_var 5) sa_nil))) (.name (i := 6) sc_p_holds.nd rfl (Or.inl rfl) (by first | exact .inl rfl | exact .inr rfl)) (sss_one (ss_try rfl rfl tk (fun _ _ _ tk1 hp1 => (sss_one (ss_if (st_ne hu64 (se_call C_behind A_p_behind (hr.mono (by decide)) rfl tk1 (sa_cons (se_var 0) (sa_cons (se_ix hu (se_var 2) (se_var 6)) (sa_cons (se_ix hu (se_var 5) (se_var 6)) sa_nil)))) (se_ix hu (se_var 2) (se_add false (se_var 6) se_int))) (sss_one (ss_ret se_bl)) sss_nil))) (.cons ⟨rfl, by decide +kernel, .inl T.n_StackError⟩ T.k_StackError (fun _ _ _ => (sss_one (ss_ret se_bl))) .nil))))
 (sss_one (ss_ret se_bl)))))
theorem sc_raw_row : FnScope n_raw_row ["_law_script", "_law_tape", "_law_names"] (defScope (top 35)) := ⟨rfl, rfl, rfl, by decide +kernel, rfl, by decide +kernel, by decide +kernel⟩
theorem d_raw_row (T : Txt w K mg P tW tP aS) (hx : P.xa = none) (C__law_draw : Cal Pg w K mg base P "_law_draw" 3 1 s_draw) (C__law_plain_row : Cal Pg w K mg base P "_law_plain_row" 2 3 s_plain_row) {f : Addr} {fd : FuncData} (F : L2.Fun K "_law_raw_row" "_law_raw_row" (top 35) f fd) : FnOk Pg w K mg base (L2.CX Pg w) 4 f fd ["_law_script", "_law_tape", "_law_names"] (spF K P 3 s_raw_row) :=
  okF (N := n_raw_row) (body := b_raw_row) (a := 3) (n := 7) F sc_raw_row rfl rfl hx fun cdv A outer s H E hr tk hp =>
  have hu : _ + 1 < cLine := hu_of hr
  have hu64 : _ + 64 < cLine := hr.units
(sss_cons (ss_asg (i := 3) sc_raw_row.nd rfl (Or.inl rfl) (se_call C__law_draw A_draw (hr.mono (by decide)) rfl tk (sa_cons (se_var 0) (sa_cons (se_var 1) (sa_cons se_int sa_nil)))))
 (sss_cons (ss_if (st_cmp op_lt bo_cmp (se_var 3) se_int) (sss_one (ss_ret (se_call C__law_plain_row A_plain_row (hr.mono (by decide)) rfl tk (sa_cons (se_var 0) (sa_cons (se_var 1) sa_nil))))) sss_nil)
 (sss_cons (ss_asg (i := 4) sc_raw_row.nd rfl (Or.inl rfl) (se_ix hu (se_var 2) (se_call C__law_draw A_draw (hr.mono (by decide)) rfl tk (sa_cons (se_var 0) (sa_cons (se_var 1) (sa_cons (se_len rfl T.b_len (sa_cons (se_var 2) sa_nil)) sa_nil))))))
 (sss_cons (ss_asg (i := 5) sc_raw_row.nd rfl (Or.inl rfl) (se_call C__law_draw A_draw (hr.mono (by decide)) rfl tk (sa_cons (se_var 0) (sa_cons (se_var 1) (sa_cons (se_len rfl T.b_len (sa_cons (se_var 4) sa_nil)) sa_nil)))))
 (sss_cons (ss_asg (i := 6) sc_raw_row.nd rfl (Or.inl rfl) (se_add false (se_var 2) (se_lst false (sa_cons (se_add false (se_add false (se_slice false (se_var 4) so_none (so_some (se_var 5))) se_str) (se_slice false (se_var 4) (so_some (se_add false (se_var 5) se_int)) so_none)) sa_nil))))
 (sss_cons (ss_asg (i := 4) sc_raw_row.nd rfl (Or.inl rfl) (se_ix hu (se_var 6) (se_call C__law_draw A_draw (hr.mono (by decide)) rfl tk (sa_cons (se_var 0) (sa_cons (se_var 1) (sa_cons (se_len rfl T.b_len (sa_cons (se_var 6) sa_nil)) sa_nil))))))
 (sss_cons (ss_if (st_eq hu64 (se_var 3) se_int) (sss_one (ss_ret (se_tup (sa_cons se_str (sa_cons (se_var 4) sa_nil))))) sss_nil)
 (sss_one (ss_ret (se_tup (sa_cons se_str (sa_cons (se_var 4) (sa_cons (se_ix hu (se_var 6) (se_call C__law_draw A_draw (hr.mono (by decide)) rfl tk (sa_cons (se_var 0) (sa_cons (se_var 1) (sa_cons (se_len rfl T.b_len (sa_cons (se_var 6) sa_nil)) sa_nil))))) sa_nil)))))))))))))
theorem sc_spoilt : FnScope n_spoilt ["_law_script", "_law_tape", "_law_program"] (defScope (top 36)) := ⟨rfl, rfl, rfl, by decide +kernel, rfl, by decide +kernel, by decide +kernel⟩
theorem d_spoilt (T : Txt w K mg P tW tP aS) (hx : P.xa = none) (C__law_draw : Cal Pg w K mg base P "_law_draw" 3 1 s_draw) (C__law_kinds : Cal Pg w K mg base P "_law_kinds" 2 2 s_kinds_2) (C__law_raw_row : Cal Pg w K mg base P "_law_raw_row" 3 4 s_raw_row) {f : Addr} {fd : FuncData} (F : L2.Fun K "_law_spoilt" "_law_spoilt" (top 36) f fd) : FnOk Pg w K mg base (L2.CX Pg w) 5 f fd ["_law_script", "_law_tape", "_law_program"] (spF K P 3 s_spoilt) :=
  okF (N := n_spoilt) (body := b_spoilt) (a := 3) (n := 10) F sc_spoilt rfl rfl hx fun cdv A outer s H E hr tk hp =>
  have hu : _ + 1 < cLine := hu_of hr
  have hu64 : _ + 64 < cLine := hr.units
(sss_cons (ss_asg (i := 3) sc_spoilt.nd rfl (Or.inl rfl) (se_list false rfl rfl T.b_list (sa_cons (se_var 2) sa_nil)))
 (sss_cons (ss_asg (i := 4) sc_spoilt.nd rfl (Or.inl rfl) (se_ix hu (se_var 3) (se_call C__law_draw A_draw (hr.mono (by decide)) rfl tk (sa_cons (se_var 0) (sa_cons (se_var 1) (sa_cons (se_len rfl T.b_len (sa_cons (se_var 3) sa_nil)) sa_nil))))))
 (sss_cons (ss_asgT rfl sc_spoilt.nd (.cons (i := 5) rfl (Or.inl rfl) (by first | exact .inl rfl | exact .inr rfl) rfl (.cons (i := 6) rfl (Or.inl rfl) (by first | exact .inl rfl | exact .inr rfl) rfl (.cons (i := 7) rfl (Or.inl rfl) (by first | exact .inl rfl | exact .inr rfl) rfl .nil))) (se_ix hu (se_var 2) (se_var 4)))
 (sss_cons (ss_asg (i := 8) sc_spoilt.nd rfl (Or.inl rfl) (se_call C__law_draw A_draw (hr.mono (by decide)) rfl tk (sa_cons (se_var 0) (sa_cons (se_var 1) (sa_cons (se_add false (se_len rfl T.b_len (sa_cons (se_var 7) sa_nil)) se_int) sa_nil)))))
 (sss_cons (ss_asg (i := 9) sc_spoilt.nd rfl (Or.inl rfl) (se_call C__law_draw A_draw (hr.mono (by decide)) rfl tk (sa_cons (se_var 0) (sa_cons (se_var 1) (sa_cons se_int sa_nil)))))
 (sss_cons (ss_if (st_cmp op_lt bo_cmp (se_var 9) se_int) (sss_one (ss_asg (i := 7) sc_spoilt.nd rfl (Or.inl rfl) (se_add false (se_add false (se_slice false (se_var 7) so_none (so_some (se_var 8))) (se_lst false (sa_cons (se_call C__law_raw_row A_raw_row (hr.mono (by decide)) rfl tk (sa_cons (se_var 0) (sa_cons (se_var 1) (sa_cons (se_var 3) sa_nil)))) sa_nil))) (se_slice false (se_var 7) (so_some (se_add false (se_var 8) se_int)) so_none)))) sss_nil)
 (sss_cons (ss_if (st_eq hu64 (se_var 9) se_int) (sss_one (ss_asg (i := 7) sc_spoilt.nd rfl (Or.inl rfl) (se_add false (se_add false (se_slice false (se_var 7) so_none (so_some (se_var 8))) (se_lst false (sa_cons (se_call C__law_raw_row A_raw_row (hr.mono (by decide)) rfl tk (sa_cons (se_var 0) (sa_cons (se_var 1) (sa_cons (se_var 3) sa_nil)))) sa_nil))) (se_slice false (se_var 7) (so_some (se_var 8)) so_none)))) sss_nil)
 (sss_cons (ss_if (st_eq hu64 (se_var 9) se_int) (sss_one (ss_asg (i := 7) sc_spoilt.nd rfl (Or.inl rfl) (se_add false (se_slice false (se_var 7) so_none (so_some (se_var 8))) (se_slice false (se_var 7) (so_some (se_add false (se_var 8) se_int)) so_none)))) sss_nil)
 (sss_cons (ss_if (st_eq hu64 (se_var 9) se_int) (sss_one (ss_asg (i := 6) sc_spoilt.nd rfl (Or.inl rfl) (se_call C__law_kinds A_kinds_2 (hr.mono (by decide)) rfl tk (sa_cons (se_var 0) (sa_cons (se_var 1) sa_nil))))) sss_nil)
 (sss_cons (ss_if (st_eq hu64 (se_var 9) se_int) (sss_one (ss_asg (i := 5) sc_spoilt.nd rfl (Or.inl rfl) (se_call C__law_kinds A_kinds_2 (hr.mono (by decide)) rfl tk (sa_cons (se_var 0) (sa_cons (se_var 1) sa_nil))))) sss_nil)
 (sss_cons (ss_setD hu (se_var 2) (se_var 4) (se_tup (sa_cons (se_var 5) (sa_cons (se_var 6) (sa_cons (se_var 7) sa_nil)))))
 (sss_one (ss_ret (se_var 4))))))))))))))
theorem sc_law_k05 : FnScope n_law_k05 ["_law_script"] (defScope (top 40)) := ⟨rfl, rfl, rfl, by decide +kernel, rfl, by decide +kernel, by decide +kernel⟩
theorem d_law_k05 (T : Txt w K mg P tW tP aS) (hx : P.xa = none) (C__law_draw : Cal Pg w K mg base P "_law_draw" 3 1 s_draw) (C__law_good_program : Cal Pg w K mg base P "_law_good_program" 2 7 s_good_program) (C__law_walked : Cal Pg w K mg base P "_law_walked" 2 4 s_walked) (C__law_forged : Cal Pg w K mg base P "_law_forged" 3 2 s_forged) (C__law_copy : Cal Pg w K mg base P "_law_copy" 1 1 s_copy) (C_holds : Cal Pg w K mg base P "holds" 3 4 s_p_holds) (C__law_spoilt : Cal Pg w K mg base P "_law_spoilt" 3 5 s_spoilt) {f : Addr} {fd : FuncData} (F : L2.Fun K "law" "law" (top 40) f fd) : FnOk Pg w K mg base (L2.CX Pg w) 8 f fd ["_law_script"] (spF K P 1 s_law_k05) :=
  okF (N := n_law_k05) (body := b_law_k05) (a := 1) (n := 16) F sc_law_k05 rfl rfl hx fun cdv A outer s H E hr tk hp =>
  have hu : _ + 1 < cLine := hu_of hr
  have hu64 : _ + 64 < cLine := hr.units
(sss_cons (ss_asg (i := 1) sc_law_k05.nd rfl (Or.inl rfl) (se_lst true (sa_cons se_int sa_nil)))
 (sss_cons (ss_asg (i := 2) sc_law_k05.nd rfl (Or.inl rfl) (se_call C__law_draw A_draw (hr.mono (by decide)) rfl tk (sa_cons (se_var 0) (sa_cons (se_var 1) (sa_cons se_int sa_nil)))))
 (sss_cons (ss_asg (i := 3) sc_law_k05.nd rfl (Or.inl rfl) (se_call C__law_good_program A_good_program (hr.mono (by decide)) rfl tk (sa_cons (se_var 0) (sa_cons (se_var 1) sa_nil))))
 (sss_cons (ss_asg (i := 4) sc_law_k05.nd rfl (Or.inl rfl) (se_list false rfl rfl T.b_list (sa_cons (se_var 3) sa_nil)))
 (sss_cons (ss_asg (i := 5) sc_law_k05.nd rfl (Or.inl rfl) (se_ix hu (se_var 4) (se_mod (se_call C__law_draw A_draw (hr.mono (by decide)) rfl tk (sa_cons (se_var 0) (sa_cons (se_var 1) (sa_cons se_int sa_nil)))) (se_len rfl T.b_len (sa_cons (se_var 4) sa_nil)))))
 (sss_cons (ss_if (st_cmp op_lt bo_cmp (se_var 2) se_int) (sss_one (ss_asg (i := 5) sc_law_k05.nd rfl (Or.inl rfl) (se_call C__law_spoilt A_spoilt (hr.mono (by decide)) rfl tk (sa_cons (se_var 0) (sa_cons (se_var 1) (sa_cons (se_var 3) sa_nil)))))) sss_nil)
 (sss_cons (ss_asgT rfl sc_law_k05.nd (.cons (i := 6) rfl (Or.inl rfl) (by first | exact .inl rfl | exact .inr rfl) rfl (.cons (i := 7) rfl (Or.inl rfl) (by first | exact .inl rfl | exact .inr rfl) rfl .nil)) (se_call C__law_walked A_walked (hr.mono (by decide)) rfl tk (sa_cons (se_var 3) (sa_cons (se_var 5) sa_nil))))
 (sss_cons (ss_asg (i := 8) sc_law_k05.nd rfl (Or.inl rfl) (se_list true rfl rfl T.b_list (sa_cons (se_var 6) sa_nil)))
 (sss_cons (ss_while 1000000 hp (st_w (sw_and (st_ne hu64 (se_var 7) se_str) (sw_and1 (st_cmp op_lt bo_cmp (se_len rfl T.b_len (sa_cons (se_var 8) sa_nil)) (se_add false (se_len rfl T.b_len (sa_cons (se_ix hu (se_ix hu (se_var 3) (se_var 5)) se_int) sa_nil)) se_int))))) (sss_one (ss_exp (se_append (se_var 8) (sa_cons (se_ix hu (se_ix hu (se_var 3) (se_var 5)) se_int) sa_nil)))))
 (sss_cons (ss_if (st_w (sw_and (st_eq hu64 (se_var 7) se_str) (sw_and1 (st_eq hu64 (se_call C__law_draw A_draw (hr.mono (by decide)) rfl tk (sa_cons (se_var 0) (sa_cons (se_var 1) (sa_cons se_int sa_nil)))) se_int)))) (sss_one (ss_setL (se_var 8) (se_sub (se_len rfl T.b_len (sa_cons (se_var 8) sa_nil)) se_int) (se_ix hu (se_ix hu (se_var 3) (se_var 5)) se_int))) sss_nil)
 (sss_cons (ss_asg (i := 8) sc_law_k05.nd rfl (Or.inl rfl) (se_call C__law_forged A_forged (hr.mono (by decide)) rfl tk (sa_cons (se_var 0) (sa_cons (se_var 1) (sa_cons (se_var 8) sa_nil)))))
 (sss_cons (ss_if (st_w (sw_and (st_eq hu64 (se_var 7) se_str) (sw_and1 (st_eq hu64 (se_call C__law_draw A_draw (hr.mono (by decide)) rfl tk (sa_cons (se_var 0) (sa_cons (se_var 1) (sa_cons se_int sa_nil)))) se_int)))) (sss_cons (ss_asgT rfl sc_law_k05.nd (.cons (i := 9) rfl (Or.inl rfl) (by first | exact .inl rfl | exact .inr rfl) rfl (.cons (i := 10) rfl (Or.inl rfl) (by first | exact .inl rfl | exact .inr rfl) rfl (.cons (i := 11) rfl (Or.inl rfl) (by first | exact .inl rfl | exact .inr rfl) rfl .nil))) (se_ix hu (se_var 3) (se_var 5)))
 (sss_cons (ss_setD hu (se_var 3) (se_var 5) (se_tup (sa_cons (se_var 9) (sa_cons (se_add false (se_tup (sa_cons se_str sa_nil)) (se_var 10)) (sa_cons (se_var 11) sa_nil)))))
 (sss_cons (ss_asgLc true rfl sc_law_k05.nd (iy := 8) rfl rfl (sw_true rfl rfl rfl (by decide +kernel)) (si_it (se_var 6)) (blkOk_by (own := [("_law_kinds_here", 15)]) (N := n_law_k05) (sc := defScope (top 40)) (by decide +kernel)) (fun _ _ _ _ _ => pg_name (i := 15) sc_law_k05.nd rfl (Or.inl rfl)) (fun _ _ _ _ _ => spts_nil) (fun _ _ _ _ _ => (se_add false (se_tup (sa_cons se_str sa_nil)) (se_var 15))))
 (sss_one (ss_asg (i := 7) sc_law_k05.nd rfl (Or.inl rfl) se_str))))) sss_nil)
 (sss_cons (ss_asg (i := 12) sc_law_k05.nd rfl (Or.inl rfl) (se_fr (se_call C__law_copy A_copy (hr.mono (by decide)) rfl tk (sa_cons (se_var 3) sa_nil))))
 (sss_cons (ss_asg (i := 13) sc_law_k05.nd rfl (Or.inl rfl) (se_list false rfl rfl T.b_list (sa_cons (se_var 8) sa_nil)))
 (sss_cons (ss_asg (i := 14) sc_law_k05.nd rfl (Or.inl rfl) (se_call C_holds A_p_holds (hr.mono (by decide)) rfl tk (sa_cons (se_var 3) (sa_cons (se_var 5) (sa_cons (se_var 13) sa_nil)))))
 (sss_cons (ss_if (st_w (sw_or (st_ne hu64 (se_var 3) (se_var 12)) (sw_or (st_ne hu64 (se_var 13) (se_var 8)) (sw_or1 (st_not (st_tv (se_isi (u := "bool") (by decide +kernel) rfl T.b_isinstance rfl T.b_bool bt_bool (se_var 14)))))))) (sss_one (ss_ret se_bl)) sss_nil)
 (sss_one (ss_ret (se_eq hu64 (se_var 14) (se_and (se_eq hu64 (se_var 7) se_str) (se_one (se_eq hu64 (se_var 8) (se_var 6)))))))))))))))))))))))
end
theorem all_mk {Pg : Program} {w : World} {K : PySem.W.Frag} {h : Heap} {mg : Str → Option Value} {fa : Addr} (X : K.In h) (G : h.Ns mainGlobals mg) (hfa : mg "law" = some (.ref fa)) {a1 a2 a3 a4 aS tP tW : Addr}
  (na1 : PySem.W.nsIn K mainGlobals "Empty" = some (some (.ref a1)))
  (na2 : PySem.W.nsIn K mainGlobals "WrongKind" = some (some (.ref a2)))
  (na3 : PySem.W.nsIn K mainGlobals "NoBlock" = some (some (.ref a3)))
  (na4 : PySem.W.nsIn K mainGlobals "Apart" = some (some (.ref a4)))
  (naS : PySem.W.nsIn K mainGlobals "StackError" = some (some (.ref aS)))
  (exa4 : PySem.W.excIn K a4 [.type "ValueError", .type "Exception", .type "BaseException", .type "object"] "ValueError.__new__" = true)
  (kpa4 : PySem.W.keepIn K (.ref a4) = true)
  (sba4 : PySem.W.subIn K (.ref a4) (.type "BaseException") = some true)
  (tya4 : PySem.W.typeIn K (.ref a4) = some (.type "type"))
  (exa1 : PySem.W.excIn K a1 [.type "ValueError", .type "Exception", .type "BaseException", .type "object"] "ValueError.__new__" = true)
  (kpa1 : PySem.W.keepIn K (.ref a1) = true)
  (sba1 : PySem.W.subIn K (.ref a1) (.type "BaseException") = some true)
  (tya1 : PySem.W.typeIn K (.ref a1) = some (.type "type"))
  (exa3 : PySem.W.excIn K a3 [.type "ValueError", .type "Exception", .type "BaseException", .type "object"] "ValueError.__new__" = true)
  (kpa3 : PySem.W.keepIn K (.ref a3) = true)
  (sba3 : PySem.W.subIn K (.ref a3) (.type "BaseException") = some true)
  (tya3 : PySem.W.typeIn K (.ref a3) = some (.type "type"))
  (exa2 : PySem.W.excIn K a2 [.type "ValueError", .type "Exception", .type "BaseException", .type "object"] "ValueError.__new__" = true)
  (kpa2 : PySem.W.keepIn K (.ref a2) = true)
  (sba2 : PySem.W.subIn K (.ref a2) (.type "BaseException") = some true)
  (tya2 : PySem.W.typeIn K (.ref a2) = some (.type "type"))
  (b_bool : PySem.W.nsIn K mainGlobals "bool" = some none)
  (b_int : PySem.W.nsIn K mainGlobals "int" = some none)
  (b_isinstance : PySem.W.nsIn K mainGlobals "isinstance" = some none)
  (b_len : PySem.W.nsIn K mainGlobals "len" = some none)
  (b_list : PySem.W.nsIn K mainGlobals "list" = some none)
  (b_max : PySem.W.nsIn K mainGlobals "max" = some none)
  (b_range : PySem.W.nsIn K mainGlobals "range" = some none)
  (b_tuple : PySem.W.nsIn K mainGlobals "tuple" = some none)
  (b_zip : PySem.W.nsIn K mainGlobals "zip" = some none)
  (maSa1 : PySem.W.exmOne K (.ref a1) (.ref aS) = some true)
  (maSa2 : PySem.W.exmOne K (.ref a2) (.ref aS) = some true)
  (maSa3 : PySem.W.exmOne K (.ref a3) (.ref aS) = some true)
  (maSa4 : PySem.W.exmOne K (.ref a4) (.ref aS) = some true)
  (maSaS : PySem.W.exmOne K (.ref aS) (.ref aS) = some true)
  {estP : Array DictEntry} {nntP : Nat}
  (gtP : PySem.W.nsIn K mainGlobals "PUTS" = some (some (.ref tP)))
  (ltP : K.lookup tP = some ⟨.type "dict", none, .dict estP nntP, #[]⟩)
  (ktP : PySem.W.KeysLit w.params estP.toList)
  (rtP : TabRows K tP T_PUTS)
  {estW : Array DictEntry} {nntW : Nat}
  (gtW : PySem.W.nsIn K mainGlobals "WANTS" = some (some (.ref tW)))
  (ltW : K.lookup tW = some ⟨.type "dict", none, .dict estW nntW, #[]⟩)
  (ktW : PySem.W.KeysLit w.params estW.toList)
  (rtW : TabRows K tW T_WANTS)
  (D_draw : DefAt K mg "_law_draw" (top 19) ["_law_script", "_law_tape", "_law_many"])
  (D_words : DefAt K mg "_law_words" (top 20) ["_law_cell", "_law_size"])
  (D_kinds_2 : DefAt K mg "_law_kinds" (top 28) ["_law_script", "_law_tape"])
  (D_told_3 : DefAt K mg "_law_told" (top 29) ["_law_script", "_law_tape"])
  (D_value : DefAt K mg "_law_value" (top 21) ["_law_script", "_law_tape", "_law_kind"])
  (D_plain_row : DefAt K mg "_law_plain_row" (top 27) ["_law_script", "_law_tape"])
  (D_pushes : DefAt K mg "_law_pushes" (top 30) ["_law_script", "_law_tape", "_law_kinds_here"])
  (D_lack_2 : DefAt K mg "_law_lack" (top 23) ["_law_kinds_here", "_law_wanted_here"])
  (D_choice : DefAt K mg "_law_choice" (top 31) ["_law_script", "_law_tape", "_law_told_here", "_law_names", "_law_kinds_here"])
  (D_wanted : DefAt K mg "_law_wanted" (top 22) ["_law_row"])
  (D_fitting : DefAt K mg "_law_fitting" (top 32) ["_law_script", "_law_tape", "_law_told_here", "_law_names", "_law_kinds_here"])
  (D_called : DefAt K mg "_law_called" (top 25) ["_law_told_here", "_law_kinds_here", "_law_name"])
  (D_plainly_2 : DefAt K mg "_law_plainly" (top 24) ["_law_kinds_here", "_law_row"])
  (D_next : DefAt K mg "_law_next" (top 26) ["_law_told_here", "_law_kinds_here", "_law_row"])
  (D_good_rows : DefAt K mg "_law_good_rows" (top 33) ["_law_script", "_law_tape", "_law_told_here", "_law_name", "_law_names"])
  (D_good_program : DefAt K mg "_law_good_program" (top 34) ["_law_script", "_law_tape"])
  (D_walked : DefAt K mg "_law_walked" (top 38) ["_law_program", "_law_name"])
  (D_forged : DefAt K mg "_law_forged" (top 39) ["_law_script", "_law_tape", "_law_trail"])
  (D_copy : DefAt K mg "_law_copy" (top 37) ["_law_program"])
  (D_p_wants : DefAt K mg "wants" (top 8) ["row"])
  (D_p_need : DefAt K mg "need" (top 9) ["kinds", "wanted"])
  (D_p_plainly : DefAt K mg "plainly" (top 12) ["kinds", "row"])
  (D_p_called : DefAt K mg "called" (top 13) ["kinds", "block"])
  (D_p_block_of : DefAt K mg "block_of" (top 14) ["program", "name"])
  (D_p_behind : DefAt K mg "behind" (top 15) ["program", "kinds", "row"])
  (D_p_holds : DefAt K mg "holds" (top 17) ["program", "name", "trail"])
  (D_raw_row : DefAt K mg "_law_raw_row" (top 35) ["_law_script", "_law_tape", "_law_names"])
  (D_spoilt : DefAt K mg "_law_spoilt" (top 36) ["_law_script", "_law_tape", "_law_program"])
  {oc kV dc pm cd ct : Value} {odd an : Option Addr} {sl : Array (Option Value)} {f : Addr}
  (aL : PySem.W.nsIn K mainGlobals "law" = some (some (.ref f)))
  (lL : K.lookup f = some ⟨oc, odd, .func (PySem.W.fnOf "law" "law" (defArgs (top 40)) (defBody (top 40)) (defScope (top 40)) .none kV dc pm an cd ct), sl⟩)
  (cL : PySem.W.codeIn K cd "law" = true)
  (kL : PySem.W.keepIn K (.ref f) = true) :
  ∃ fd : FuncData, (∀ (s : Shared) (v : Value), BindsTo s fd ⟨[v], []⟩ [("_law_script", v)]) ∧ ∀ base : Heap, K.In base → base.Ns mainGlobals mg → FnOk Pg w K mg base (L2.CX Pg w) 8 fa fd ["_law_script"] (spLaw K) := by
  have e := hfa.symm.trans (PySem.W.mg_of X G aL)
  cases e
  have T : Txt w K mg ⟨a1, ecs a1 a2 a3 a4 aS, none⟩ tW tP aS :=
    { b_bool := PySem.W.mg_none_of X G b_bool,
      b_int := PySem.W.mg_none_of X G b_int,
      b_isinstance := PySem.W.mg_none_of X G b_isinstance,
      b_len := PySem.W.mg_none_of X G b_len,
      b_list := PySem.W.mg_none_of X G b_list,
      b_max := PySem.W.mg_none_of X G b_max,
      b_range := PySem.W.mg_none_of X G b_range,
      b_tuple := PySem.W.mg_none_of X G b_tuple,
      b_zip := PySem.W.mg_none_of X G b_zip,
      n_StackError := PySem.W.mg_of X G naS,
      k_StackError := catch_mk maSa1 maSa2 maSa3 maSa4 maSaS,
      g_PUTS := PySem.W.mg_of X G gtP,
      t_PUTS := tab_mk ltP ktP rtP,
      g_WANTS := PySem.W.mg_of X G gtW,
      t_WANTS := tab_mk ltW ktW rtW,
      x_Apart := exf_mk X G na4 exa4 kpa4 sba4 tya4,
      x_Empty := exf_mk X G na1 exa1 kpa1 sba1 tya1,
      x_NoBlock := exf_mk X G na3 exa3 kpa3 sba3 tya3,
      x_WrongKind := exf_mk X G na2 exa2 kpa2 sba2 tya2 }
  refine ⟨PySem.W.fnOf "law" "law" (defArgs (top 40)) (defBody (top 40)) (defScope (top 40)) .none kV dc pm an cd ct, fun s v => .of_eq rfl, fun base _ _ => ?_⟩
  clear X G
  have C_draw := cal_mk (Pg := Pg) (w := w) (base := base) D_draw fun F => d_draw T rfl  F
  have C_words := cal_mk (Pg := Pg) (w := w) (base := base) D_words fun F => d_words T rfl  F
  have C_kinds_2 := cal_mk (Pg := Pg) (w := w) (base := base) D_kinds_2 fun F => d_kinds_2 T rfl C_draw F
  have C_told_3 := cal_mk (Pg := Pg) (w := w) (base := base) D_told_3 fun F => d_told_3 T rfl C_words C_draw C_kinds_2 F
  have C_value := cal_mk (Pg := Pg) (w := w) (base := base) D_value fun F => d_value T rfl C_draw C_words F
  have C_plain_row := cal_mk (Pg := Pg) (w := w) (base := base) D_plain_row fun F => d_plain_row T rfl C_draw C_value F
  have C_pushes := cal_mk (Pg := Pg) (w := w) (base := base) D_pushes fun F => d_pushes T rfl C_value F
  have C_lack_2 := cal_mk (Pg := Pg) (w := w) (base := base) D_lack_2 fun F => d_lack_2 T rfl  F
  have C_choice := cal_mk (Pg := Pg) (w := w) (base := base) D_choice fun F => d_choice T rfl C_draw C_pushes C_value C_lack_2 F
  have C_wanted := cal_mk (Pg := Pg) (w := w) (base := base) D_wanted fun F => d_wanted T rfl  F
  have C_fitting := cal_mk (Pg := Pg) (w := w) (base := base) D_fitting fun F => d_fitting T rfl C_plain_row C_pushes C_choice C_lack_2 C_draw C_wanted F
  have C_called := cal_mk (Pg := Pg) (w := w) (base := base) D_called fun F => d_called T rfl C_lack_2 F
  have C_plainly_2 := cal_mk (Pg := Pg) (w := w) (base := base) D_plainly_2 fun F => d_plainly_2 T rfl C_wanted F
  have C_next := cal_mk (Pg := Pg) (w := w) (base := base) D_next fun F => d_next T rfl C_lack_2 C_called C_wanted C_plainly_2 F
  have C_good_rows := cal_mk (Pg := Pg) (w := w) (base := base) D_good_rows fun F => d_good_rows T rfl C_draw C_fitting C_pushes C_next F
  have C_good_program := cal_mk (Pg := Pg) (w := w) (base := base) D_good_program fun F => d_good_program T rfl C_told_3 C_draw C_good_rows F
  have C_walked := cal_mk (Pg := Pg) (w := w) (base := base) D_walked fun F => d_walked T rfl C_next F
  have C_forged := cal_mk (Pg := Pg) (w := w) (base := base) D_forged fun F => d_forged T rfl C_draw F
  have C_copy := cal_mk (Pg := Pg) (w := w) (base := base) D_copy fun F => d_copy T rfl  F
  have C_p_wants := cal_mk (Pg := Pg) (w := w) (base := base) D_p_wants fun F => d_p_wants T rfl  F
  have C_p_need := cal_mk (Pg := Pg) (w := w) (base := base) D_p_need fun F => d_p_need T rfl  F
  have C_p_plainly := cal_mk (Pg := Pg) (w := w) (base := base) D_p_plainly fun F => d_p_plainly T rfl C_p_wants C_p_need F
  have C_p_called := cal_mk (Pg := Pg) (w := w) (base := base) D_p_called fun F => d_p_called T rfl C_p_need F
  have C_p_block_of := cal_mk (Pg := Pg) (w := w) (base := base) D_p_block_of fun F => d_p_block_of T rfl  F
  have C_p_behind := cal_mk (Pg := Pg) (w := w) (base := base) D_p_behind fun F => d_p_behind T rfl C_p_plainly C_p_called C_p_need C_p_block_of F
  have C_p_holds := cal_mk (Pg := Pg) (w := w) (base := base) D_p_holds fun F => d_p_holds T rfl C_p_behind F
  have C_raw_row := cal_mk (Pg := Pg) (w := w) (base := base) D_raw_row fun F => d_raw_row T rfl C_draw C_plain_row F
  have C_spoilt := cal_mk (Pg := Pg) (w := w) (base := base) D_spoilt fun F => d_spoilt T rfl C_draw C_kinds_2 C_raw_row F
  exact weak (d_law_k05 T rfl C_draw C_good_program C_walked C_forged C_copy C_p_holds C_spoilt (fun_mk lL cL kL)) (law_sp (fun ns _ => law_k05_ok ns))
end Lk05
end Py
open PySem PySem.W PyProof.Rows
set_option maxRecDepth 100000 in
set_option maxHeartbeats 0 in
theorem PySem.Challenge.cw_stackproof_k05_trails_looked_at_holds : PySem.Challenge.rw_stackproof_k05_trails_looked_at.Holds := by
  w_on; o_law; k_head; (case hw => w_witness2)
  k_fill
  refine Py.walkL (l := PySem.Challenge.rw_stackproof_k05_trails_looked_at) (k := 8) (x := "_law_script") rfl rfl ⟨rfl, by decide, by decide⟩ (fun w h Y => PySem.W.kIn_of Y) ?F
  case F =>
    intro w mg fa h KX G hmg
    refine' Py.Lk05.all_mk KX G hmg ?na1 ?na2 ?na3 ?na4 ?naS ?exa4 ?kpa4 ?sba4 ?tya4 ?exa1 ?kpa1 ?sba1 ?tya1 ?exa3 ?kpa3 ?sba3 ?tya3 ?exa2 ?kpa2 ?sba2 ?tya2 ?b_bool ?b_int ?b_isinstance ?b_len ?b_list ?b_max ?b_range ?b_tuple ?b_zip ?maSa1 ?maSa2 ?maSa3 ?maSa4 ?maSaS ?gtP ?ltP ?ktP ?rtP ?gtW ?ltW ?ktW ?rtW ?D_draw ?D_words ?D_kinds_2 ?D_told_3 ?D_value ?D_plain_row ?D_pushes ?D_lack_2 ?D_choice ?D_wanted ?D_fitting ?D_called ?D_plainly_2 ?D_next ?D_good_rows ?D_good_program ?D_walked ?D_forged ?D_copy ?D_p_wants ?D_p_need ?D_p_plainly ?D_p_called ?D_p_block_of ?D_p_behind ?D_p_holds ?D_raw_row ?D_spoilt ?aL ?lL ?cL ?kL
    (case na1 => first | k_is | rfl | decide +kernel)
    (case na2 => first | k_is | rfl | decide +kernel)
    (case na3 => first | k_is | rfl | decide +kernel)
    (case na4 => first | k_is | rfl | decide +kernel)
    (case naS => first | k_is | rfl | decide +kernel)
    (case exa4 => k_exc)
    (case kpa4 => first | k_is | rfl | decide +kernel)
    (case sba4 => first | k_is | rfl | decide +kernel)
    (case tya4 => first | k_is | rfl | decide +kernel)
    (case exa1 => k_exc)
    (case kpa1 => first | k_is | rfl | decide +kernel)
    (case sba1 => first | k_is | rfl | decide +kernel)
    (case tya1 => first | k_is | rfl | decide +kernel)
    (case exa3 => k_exc)
    (case kpa3 => first | k_is | rfl | decide +kernel)
    (case sba3 => first | k_is | rfl | decide +kernel)
    (case tya3 => first | k_is | rfl | decide +kernel)
    (case exa2 => k_exc)
    (case kpa2 => first | k_is | rfl | decide +kernel)
    (case sba2 => first | k_is | rfl | decide +kernel)
    (case tya2 => first | k_is | rfl | decide +kernel)
    (case b_bool => first | k_is | rfl | decide +kernel)
    (case b_int => first | k_is | rfl | decide +kernel)
    (case b_isinstance => first | k_is | rfl | decide +kernel)
    (case b_len => first | k_is | rfl | decide +kernel)
    (case b_list => first | k_is | rfl | decide +kernel)
    (case b_max => first | k_is | rfl | decide +kernel)
    (case b_range => first | k_is | rfl | decide +kernel)
    (case b_tuple => first | k_is | rfl | decide +kernel)
    (case b_zip => first | k_is | rfl | decide +kernel)
    (case maSa1 => first | k_is | rfl | decide +kernel)
    (case maSa2 => first | k_is | rfl | decide +kernel)
    (case maSa3 => first | k_is | rfl | decide +kernel)
    (case maSa4 => first | k_is | rfl | decide +kernel)
    (case maSaS => first | k_is | rfl | decide +kernel)
    (case gtP => first | k_is | rfl | decide +kernel)
    (case ltP => first | k_is | rfl | decide +kernel)
    (case ktP => k_keys)
    (case rtP => (unfold Py.T_PUTS; refine' (.cons ?rtPn0 ?rtPl0 ?rtPs0 ?rtPv0 (.cons ?rtPn1 ?rtPl1 ?rtPs1 ?rtPv1 (.cons ?rtPn2 ?rtPl2 ?rtPs2 ?rtPv2 (.cons ?rtPn3 ?rtPl3 ?rtPs3 ?rtPv3 (.cons ?rtPn4 ?rtPl4 ?rtPs4 ?rtPv4 (.cons ?rtPn5 ?rtPl5 ?rtPs5 ?rtPv5 (.cons ?rtPn6 ?rtPl6 ?rtPs6 ?rtPv6 (.cons ?rtPn7 ?rtPl7 ?rtPs7 ?rtPv7 .nil)))))))); (case rtPn0 => first | k_is | rfl | decide +kernel); (case rtPl0 => first | k_is | rfl | decide +kernel); (case rtPs0 => decide); (case rtPn1 => first | k_is | rfl | decide +kernel); (case rtPl1 => first | k_is | rfl | decide +kernel); (case rtPs1 => decide); (case rtPn2 => first | k_is | rfl | decide +kernel); (case rtPl2 => first | k_is | rfl | decide +kernel); (case rtPs2 => decide); (case rtPn3 => first | k_is | rfl | decide +kernel); (case rtPl3 => first | k_is | rfl | decide +kernel); (case rtPs3 => decide); (case rtPn4 => first | k_is | rfl | decide +kernel); (case rtPl4 => first | k_is | rfl | decide +kernel); (case rtPs4 => decide); (case rtPn5 => first | k_is | rfl | decide +kernel); (case rtPl5 => first | k_is | rfl | decide +kernel); (case rtPs5 => decide); (case rtPn6 => first | k_is | rfl | decide +kernel); (case rtPl6 => first | k_is | rfl | decide +kernel); (case rtPs6 => decide); (case rtPn7 => first | k_is | rfl | decide +kernel); (case rtPl7 => first | k_is | rfl | decide +kernel); (case rtPs7 => decide); (case rtPv7 => exact (.s .nil)); (case rtPv6 => exact (.s .nil)); (case rtPv5 => exact (.s .nil)); (case rtPv4 => exact (.s .nil)); (case rtPv3 => exact (.s .nil)); (case rtPv2 => exact (.s .nil)); (case rtPv1 => exact (.s .nil)); (case rtPv0 => exact (.s .nil))))
    (case gtW => first | k_is | rfl | decide +kernel)
    (case ltW => first | k_is | rfl | decide +kernel)
    (case ktW => k_keys)
    (case rtW => (unfold Py.T_WANTS; refine' (.cons ?rtWn0 ?rtWl0 ?rtWs0 ?rtWv0 (.cons ?rtWn1 ?rtWl1 ?rtWs1 ?rtWv1 (.cons ?rtWn2 ?rtWl2 ?rtWs2 ?rtWv2 (.cons ?rtWn3 ?rtWl3 ?rtWs3 ?rtWv3 (.cons ?rtWn4 ?rtWl4 ?rtWs4 ?rtWv4 (.cons ?rtWn5 ?rtWl5 ?rtWs5 ?rtWv5 (.cons ?rtWn6 ?rtWl6 ?rtWs6 ?rtWv6 (.cons ?rtWn7 ?rtWl7 ?rtWs7 ?rtWv7 (.cons ?rtWn8 ?rtWl8 ?rtWs8 ?rtWv8 (.cons ?rtWn9 ?rtWl9 ?rtWs9 ?rtWv9 .nil)))))))))); (case rtWn0 => first | k_is | rfl | decide +kernel); (case rtWl0 => first | k_is | rfl | decide +kernel); (case rtWs0 => decide); (case rtWn1 => first | k_is | rfl | decide +kernel); (case rtWl1 => first | k_is | rfl | decide +kernel); (case rtWs1 => decide); (case rtWn2 => first | k_is | rfl | decide +kernel); (case rtWl2 => first | k_is | rfl | decide +kernel); (case rtWs2 => decide); (case rtWn3 => first | k_is | rfl | decide +kernel); (case rtWl3 => first | k_is | rfl | decide +kernel); (case rtWs3 => decide); (case rtWn4 => first | k_is | rfl | decide +kernel); (case rtWl4 => first | k_is | rfl | decide +kernel); (case rtWs4 => decide); (case rtWn5 => first | k_is | rfl | decide +kernel); (case rtWl5 => first | k_is | rfl | decide +kernel); (case rtWs5 => decide); (case rtWn6 => first | k_is | rfl | decide +kernel); (case rtWl6 => first | k_is | rfl | decide +kernel); (case rtWs6 => decide); (case rtWn7 => first | k_is | rfl | decide +kernel); (case rtWl7 => first | k_is | rfl | decide +kernel); (case rtWs7 => decide); (case rtWn8 => first | k_is | rfl | decide +kernel); (case rtWl8 => first | k_is | rfl | decide +kernel); (case rtWs8 => decide); (case rtWn9 => first | k_is | rfl | decide +kernel); (case rtWl9 => first | k_is | rfl | decide +kernel); (case rtWs9 => decide); (case rtWv9 => exact (.n .nil)); (case rtWv8 => exact (.n (.n .nil))); (case rtWv7 => exact (.s .nil)); (case rtWv6 => exact (.s .nil)); (case rtWv5 => exact (.s (.s .nil))); (case rtWv4 => exact (.s (.s .nil))); (case rtWv3 => exact (.s (.s .nil))); (case rtWv2 => exact (.s (.s .nil))); (case rtWv1 => exact .nil); (case rtWv0 => exact .nil)))
    (case D_draw => (refine' Py.def_mk KX G ?da ?dl ?dc ?dk ?db; (case da => k_is); (case dl => k_is); (case dc => k_is); (case dk => k_is); (case db => exact fun _ _ _ _ _ _ us hl => match us, hl with | [_, _, _], _ => rfl)))
    (case D_words => (refine' Py.def_mk KX G ?da ?dl ?dc ?dk ?db; (case da => k_is); (case dl => k_is); (case dc => k_is); (case dk => k_is); (case db => exact fun _ _ _ _ _ _ us hl => match us, hl with | [_, _], _ => rfl)))
    (case D_kinds_2 => (refine' Py.def_mk KX G ?da ?dl ?dc ?dk ?db; (case da => k_is); (case dl => k_is); (case dc => k_is); (case dk => k_is); (case db => exact fun _ _ _ _ _ _ us hl => match us, hl with | [_, _], _ => rfl)))
    (case D_told_3 => (refine' Py.def_mk KX G ?da ?dl ?dc ?dk ?db; (case da => k_is); (case dl => k_is); (case dc => k_is); (case dk => k_is); (case db => exact fun _ _ _ _ _ _ us hl => match us, hl with | [_, _], _ => rfl)))
    (case D_value => (refine' Py.def_mk KX G ?da ?dl ?dc ?dk ?db; (case da => k_is); (case dl => k_is); (case dc => k_is); (case dk => k_is); (case db => exact fun _ _ _ _ _ _ us hl => match us, hl with | [_, _, _], _ => rfl)))
    (case D_plain_row => (refine' Py.def_mk KX G ?da ?dl ?dc ?dk ?db; (case da => k_is); (case dl => k_is); (case dc => k_is); (case dk => k_is); (case db => exact fun _ _ _ _ _ _ us hl => match us, hl with | [_, _], _ => rfl)))
    (case D_pushes => (refine' Py.def_mk KX G ?da ?dl ?dc ?dk ?db; (case da => k_is); (case dl => k_is); (case dc => k_is); (case dk => k_is); (case db => exact fun _ _ _ _ _ _ us hl => match us, hl with | [_, _, _], _ => rfl)))
    (case D_lack_2 => (refine' Py.def_mk KX G ?da ?dl ?dc ?dk ?db; (case da => k_is); (case dl => k_is); (case dc => k_is); (case dk => k_is); (case db => exact fun _ _ _ _ _ _ us hl => match us, hl with | [_, _], _ => rfl)))
    (case D_choice => (refine' Py.def_mk KX G ?da ?dl ?dc ?dk ?db; (case da => k_is); (case dl => k_is); (case dc => k_is); (case dk => k_is); (case db => exact fun _ _ _ _ _ _ us hl => match us, hl with | [_, _, _, _, _], _ => rfl)))
    (case D_wanted => (refine' Py.def_mk KX G ?da ?dl ?dc ?dk ?db; (case da => k_is); (case dl => k_is); (case dc => k_is); (case dk => k_is); (case db => exact fun _ _ _ _ _ _ us hl => match us, hl with | [_], _ => rfl)))
    (case D_fitting => (refine' Py.def_mk KX G ?da ?dl ?dc ?dk ?db; (case da => k_is); (case dl => k_is); (case dc => k_is); (case dk => k_is); (case db => exact fun _ _ _ _ _ _ us hl => match us, hl with | [_, _, _, _, _], _ => rfl)))
    (case D_called => (refine' Py.def_mk KX G ?da ?dl ?dc ?dk ?db; (case da => k_is); (case dl => k_is); (case dc => k_is); (case dk => k_is); (case db => exact fun _ _ _ _ _ _ us hl => match us, hl with | [_, _, _], _ => rfl)))
    (case D_plainly_2 => (refine' Py.def_mk KX G ?da ?dl ?dc ?dk ?db; (case da => k_is); (case dl => k_is); (case dc => k_is); (case dk => k_is); (case db => exact fun _ _ _ _ _ _ us hl => match us, hl with | [_, _], _ => rfl)))
    (case D_next => (refine' Py.def_mk KX G ?da ?dl ?dc ?dk ?db; (case da => k_is); (case dl => k_is); (case dc => k_is); (case dk => k_is); (case db => exact fun _ _ _ _ _ _ us hl => match us, hl with | [_, _, _], _ => rfl)))
    (case D_good_rows => (refine' Py.def_mk KX G ?da ?dl ?dc ?dk ?db; (case da => k_is); (case dl => k_is); (case dc => k_is); (case dk => k_is); (case db => exact fun _ _ _ _ _ _ us hl => match us, hl with | [_, _, _, _, _], _ => rfl)))
    (case D_good_program => (refine' Py.def_mk KX G ?da ?dl ?dc ?dk ?db; (case da => k_is); (case dl => k_is); (case dc => k_is); (case dk => k_is); (case db => exact fun _ _ _ _ _ _ us hl => match us, hl with | [_, _], _ => rfl)))
    (case D_walked => (refine' Py.def_mk KX G ?da ?dl ?dc ?dk ?db; (case da => k_is); (case dl => k_is); (case dc => k_is); (case dk => k_is); (case db => exact fun _ _ _ _ _ _ us hl => match us, hl with | [_, _], _ => rfl)))
    (case D_forged => (refine' Py.def_mk KX G ?da ?dl ?dc ?dk ?db; (case da => k_is); (case dl => k_is); (case dc => k_is); (case dk => k_is); (case db => exact fun _ _ _ _ _ _ us hl => match us, hl with | [_, _, _], _ => rfl)))
    (case D_copy => (refine' Py.def_mk KX G ?da ?dl ?dc ?dk ?db; (case da => k_is); (case dl => k_is); (case dc => k_is); (case dk => k_is); (case db => exact fun _ _ _ _ _ _ us hl => match us, hl with | [_], _ => rfl)))
    (case D_p_wants => (refine' Py.def_mk KX G ?da ?dl ?dc ?dk ?db; (case da => k_is); (case dl => k_is); (case dc => k_is); (case dk => k_is); (case db => exact fun _ _ _ _ _ _ us hl => match us, hl with | [_], _ => rfl)))
    (case D_p_need => (refine' Py.def_mk KX G ?da ?dl ?dc ?dk ?db; (case da => k_is); (case dl => k_is); (case dc => k_is); (case dk => k_is); (case db => exact fun _ _ _ _ _ _ us hl => match us, hl with | [_, _], _ => rfl)))
    (case D_p_plainly => (refine' Py.def_mk KX G ?da ?dl ?dc ?dk ?db; (case da => k_is); (case dl => k_is); (case dc => k_is); (case dk => k_is); (case db => exact fun _ _ _ _ _ _ us hl => match us, hl with | [_, _], _ => rfl)))
    (case D_p_called => (refine' Py.def_mk KX G ?da ?dl ?dc ?dk ?db; (case da => k_is); (case dl => k_is); (case dc => k_is); (case dk => k_is); (case db => exact fun _ _ _ _ _ _ us hl => match us, hl with | [_, _], _ => rfl)))
    (case D_p_block_of => (refine' Py.def_mk KX G ?da ?dl ?dc ?dk ?db; (case da => k_is); (case dl => k_is); (case dc => k_is); (case dk => k_is); (case db => exact fun _ _ _ _ _ _ us hl => match us, hl with | [_, _], _ => rfl)))
    (case D_p_behind => (refine' Py.def_mk KX G ?da ?dl ?dc ?dk ?db; (case da => k_is); (case dl => k_is); (case dc => k_is); (case dk => k_is); (case db => exact fun _ _ _ _ _ _ us hl => match us, hl with | [_, _, _], _ => rfl)))
    (case D_p_holds => (refine' Py.def_mk KX G ?da ?dl ?dc ?dk ?db; (case da => k_is); (case dl => k_is); (case dc => k_is); (case dk => k_is); (case db => exact fun _ _ _ _ _ _ us hl => match us, hl with | [_, _, _], _ => rfl)))
    (case D_raw_row => (refine' Py.def_mk KX G ?da ?dl ?dc ?dk ?db; (case da => k_is); (case dl => k_is); (case dc => k_is); (case dk => k_is); (case db => exact fun _ _ _ _ _ _ us hl => match us, hl with | [_, _, _], _ => rfl)))
    (case D_spoilt => (refine' Py.def_mk KX G ?da ?dl ?dc ?dk ?db; (case da => k_is); (case dl => k_is); (case dc => k_is); (case dk => k_is); (case db => exact fun _ _ _ _ _ _ us hl => match us, hl with | [_, _, _], _ => rfl)))
    (case aL => first | k_is | rfl | decide +kernel)
    (case lL => first | k_is | rfl | decide +kernel)
    (case cL => first | k_is | rfl | decide +kernel)
    (case kL => first | k_is | rfl | decide +kernel)
#print axioms PySem.Challenge.cw_stackproof_k05_trails_looked_at_holds

