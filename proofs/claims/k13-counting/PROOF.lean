import PyProof.Rows.All
import Wide.All
import OpenK.AllK
import Wide.FinOn
import HandS.ForMost
import HandS.ForExc
import HandS.TryMany
import HandS.TryOnly
import HandS.ExcOwn
import HandS.WordsExc
import HandS.Zip
import HandS.Style
import HandS.IsInst
import HandS.ExcIs
import HandS.TupMul
import HandS.TupAny
import HandS.TupLe
import HandS.SetFor
import HandS.More
import KE.KEqNest
import HandS.Evl
import PySem.Challenge.RW_stackproof_k13_counting
set_option Elab.async false
set_option linter.all false
set_option maxRecDepth 100000
set_option maxHeartbeats 8000000
/-! A small value language: frozen data D, values W, cells, outcomes. -/
namespace Py
open PySem L2

inductive D where
  | non | bl (b : Bool) | int (i : Int) | str (s : Str)
  | tup (xs : List D) | lst (xs : List D) | dct (kvs : List (Str × D)) | scr (ns : List Int)

mutual
def toPy : D → PyData
  | .non => .none | .bl b => .bool b | .int i => .int i | .str s => .str s
  | .tup xs => .tuple (toPyL xs) | .lst xs => .list (toPyL xs) | .dct _ => .none | .scr _ => .none
def toPyL : List D → List PyData
  | [] => []
  | x :: xs => toPy x :: toPyL xs
end
mutual
/-- no dict within, texts that can be compared -/
def D.fine : D → Bool
  | .non => true | .bl _ => true | .int _ => true | .str s => PyData.strOk s
  | .tup xs => fineL xs | .lst xs => fineL xs | .dct _ => false | .scr _ => false
def fineL : List D → Bool
  | [] => true
  | x :: xs => x.fine && fineL xs
end
mutual
def D.dep : D → Nat
  | .tup xs => depL xs + 1 | .lst xs => depL xs + 1 | _ => 0
def depL : List D → Nat
  | [] => 0
  | x :: xs => max x.dep (depL xs)
end
mutual
def D.eqv : D → D → Bool
  | .non, .non => true
  | .bl a, .bl b => a == b
  | .bl a, .int j => (if a then 1 else 0) == j
  | .int i, .bl b => i == (if b then 1 else 0)
  | .int i, .int j => i == j
  | .str x, .str y => x == y
  | .lst xs, .lst ys => eqvL xs ys
  | .tup xs, .tup ys => eqvL xs ys
  | _, _ => false
def eqvL : List D → List D → Bool
  | [], [] => true
  | x :: xs, y :: ys => x.eqv y && eqvL xs ys
  | _, _ => false
end

/-! ### values, cells, outcomes -/
inductive W where
  | d (x : D) | c (k : Nat) | exc
inductive Cell where
  | lst (xs : List D) | dct (kvs : List (Str × D)) | obj (fs : List (Str × W)) | frz (d : D)
abbrev Store := List Cell
abbrev Env := List (Option W)
inductive Exc where
  | empty | kind | block | apart | dry
  deriving DecidableEq
inductive Res (α : Type) where
  | ok (a : α) (st : Store) | err (c : Exc) (st : Store) | stuck
abbrev M (α : Type) := Env → Store → Res α
abbrev Fn := List W → Store → Res W
inductive RS where
  | nx (env : Env) (st : Store) | ret (w : W) (st : Store) | err (c : Exc) (env : Env) (st : Store) | stuck
abbrev MS := Env → Store → RS

def Res.bind {α β : Type} (r : Res α) (k : α → Store → Res β) : Res β := match r with
  | .ok a st => k a st
  | .err c st => .err c st
  | .stuck => .stuck
@[simp] theorem Res.bind_ok {α β : Type} (a : α) (st : Store) (k : α → Store → Res β) : (Res.ok a st).bind k = k a st := rfl
@[simp] theorem Res.bind_err {α β : Type} (c : Exc) (st : Store) (k : α → Store → Res β) : (Res.err c st : Res α).bind k = .err c st := rfl
@[simp] theorem Res.bind_stuck {α β : Type} (k : α → Store → Res β) : (Res.stuck : Res α).bind k = .stuck := rfl

/-- what a value shows -/
def asD (st : Store) : W → Option D
  | .d x => some x
  | .c k => match st[k]? with
    | some (.lst xs) => some (.lst xs)
    | some (.dct kvs) => some (.dct kvs)
    | some (.frz d) => some d
    | _ => none
  | .exc => none
def frzW (w : W) (d : D) (st : Store) : Store := match w with
  | .c k => st.set k (.frz d)
  | _ => st
/-- a value becomes data: a live cell is frozen -/
def toD (w : W) (st : Store) : Res D := match asD st w with
  | some d => .ok d (frzW w d st)
  | none => .stuck
def toDs : List W → Store → Res (List D)
  | [], st => .ok [] st
  | w :: ws, st => (toD w st).bind fun d st1 => (toDs ws st1).bind fun ds st2 => .ok (d :: ds) st2

/-! ### dicts by texts -/
def look (k : Str) : List (Str × D) → Option D
  | [] => none
  | (k', v) :: r => if k' = k then some v else look k r
def putD (kvs : List (Str × D)) (k : Str) (v : D) : List (Str × D) :=
  if (kvs.any fun kv => decide (kv.1 = k)) = true then kvs.map (fun kv => if kv.1 = k then (kv.1, v) else kv) else kvs ++ [(k, v)]
def dropD (kvs : List (Str × D)) (k : Str) : List (Str × D) := kvs.filter fun kv => decide (kv.1 ≠ k)
def hitD (b : List (Str × D)) (p : Str × D) : Bool := match look p.1 b with
  | some y => p.2.eqv y
  | none => false
def dctEqv (a b : List (Str × D)) : Bool := a.length == b.length && a.all (hitD b)
/-! ### sequences -/
def cut {α : Type} (xs : List α) (lo hi : Option Int) : List α := (xs.drop (HT.sIx xs.length 0 lo)).take (HT.sIx xs.length xs.length hi - HT.sIx xs.length 0 lo)
def newL (own : Bool) (xs : List D) (st : Store) : Res W :=
  if xs.length ≤ sizeLine then (if own = true then .ok (.c st.length) (st ++ [.lst xs]) else .ok (.d (.lst xs)) st) else .stuck
def newT (xs : List D) (st : Store) : Res W := if xs.length ≤ sizeLine then .ok (.d (.tup xs)) st else .stuck
def newDc (own : Bool) (kvs : List (Str × D)) (st : Store) : Res W := if own = true then .ok (.c st.length) (st ++ [.dct kvs]) else .ok (.d (.dct kvs)) st
def reps (k : Int) (xs : List D) : List D := (List.replicate k.toNat xs).flatten

/-! ### bounds of the machine's own -/
/-- a test that nothing unfolds -/
theorem shut (p : Int → Prop) : ∃ f : Int → Bool, ∀ k, f k = true ↔ p k := by
  classical
  exact ⟨fun k => decide (p k), fun k => decide_eq_true_iff⟩
theorem shut2 (p : Int → Int → Prop) : ∃ f : Int → Int → Bool, ∀ i k, f i k = true ↔ p i k := by
  classical
  exact ⟨fun i k => decide (p i k), fun i k => decide_eq_true_iff⟩
noncomputable def mulOk : Int → Int → Bool := (shut2 fun i j => (-(2 ^ 64) < i ∧ i < 2 ^ 64) ∨ (-(2 ^ 64) < j ∧ j < 2 ^ 64)).choose
noncomputable def repOk : Int → Bool := (shut fun k => -(2 ^ 63) ≤ k ∧ k < 2 ^ 63).choose
noncomputable def strOk9 : Int → Bool := (shut fun i => i.natAbs < 2 ^ 1900).choose
noncomputable def rngOk : Int → Bool := (shut fun n => -(2 ^ 40) ≤ n ∧ n < 2 ^ 40).choose
noncomputable def fdvOk : Int → Bool := (shut fun j => 0 < j ∧ j < 1073741824).choose
noncomputable def powOk : Int → Int → Bool := (shut2 fun i j => 0 ≤ j ∧ j ≤ 1000000 ∧ i.natAbs < 2 ^ 64).choose
noncomputable def tupOk : Int → Bool := (shut fun k => 1 ≤ k ∧ k ≤ 1000).choose
theorem mulOk_iff (i j : Int) : mulOk i j = true ↔ ((-(2 ^ 64) < i ∧ i < 2 ^ 64) ∨ (-(2 ^ 64) < j ∧ j < 2 ^ 64)) := (shut2 fun i j => (-(2 ^ 64) < i ∧ i < 2 ^ 64) ∨ (-(2 ^ 64) < j ∧ j < 2 ^ 64)).choose_spec i j
theorem repOk_iff (k : Int) : repOk k = true ↔ (-(2 ^ 63) ≤ k ∧ k < 2 ^ 63) := (shut fun k => -(2 ^ 63) ≤ k ∧ k < 2 ^ 63).choose_spec k
theorem strOk9_iff (i : Int) : strOk9 i = true ↔ i.natAbs < 2 ^ 1900 := (shut fun i => i.natAbs < 2 ^ 1900).choose_spec i
theorem rngOk_iff (n : Int) : rngOk n = true ↔ (-(2 ^ 40) ≤ n ∧ n < 2 ^ 40) := (shut fun n => -(2 ^ 40) ≤ n ∧ n < 2 ^ 40).choose_spec n
theorem fdvOk_iff (j : Int) : fdvOk j = true ↔ (0 < j ∧ j < 1073741824) := (shut fun j => 0 < j ∧ j < 1073741824).choose_spec j
theorem powOk_iff (i j : Int) : powOk i j = true ↔ (0 ≤ j ∧ j ≤ 1000000 ∧ i.natAbs < 2 ^ 64) := (shut2 fun i j => 0 ≤ j ∧ j ≤ 1000000 ∧ i.natAbs < 2 ^ 64).choose_spec i j
theorem tupOk_iff (k : Int) : tupOk k = true ↔ (1 ≤ k ∧ k ≤ 1000) := (shut fun k => 1 ≤ k ∧ k ≤ 1000).choose_spec k
/-! ### expressions -/
def varM (i : Nat) : M W := fun env st => match env[i]? with
  | some (some w) => .ok w st
  | _ => .stuck
def conM (d : D) : M W := fun _ st => .ok (.d d) st
def binM (g : W → W → Store → Res W) (a b : M W) : M W := fun env st => (a env st).bind fun x s1 => (b env s1).bind fun y s2 => g x y s2
def unM (g : W → Store → Res W) (a : M W) : M W := fun env st => (a env st).bind fun x s1 => g x s1
def nilA : M (List W) := fun _ st => .ok [] st
def consA (a : M W) (r : M (List W)) : M (List W) := fun env st => (a env st).bind fun x s1 => (r env s1).bind fun xs s2 => .ok (x :: xs) s2
def appM (g : List W → Store → Res W) (a : M (List W)) : M W := fun env st => (a env st).bind fun xs s1 => g xs s1

def addW (own : Bool) (x y : W) (st : Store) : Res W := match asD st x, asD st y with
  | some (.int i), some (.int j) => .ok (.d (.int (i + j))) st
  | some (.str a), some (.str b) => if a.length + b.length ≤ sizeLine then .ok (.d (.str (a ++ b))) st else .stuck
  | some (.lst xs), some (.lst ys) => newL own (xs ++ ys) st
  | some (.tup xs), some (.tup ys) => newT (xs ++ ys) st
  | _, _ => .stuck
def subW (x y : W) (st : Store) : Res W := match asD st x, asD st y with
  | some (.int i), some (.int j) => .ok (.d (.int (i - j))) st
  | _, _ => .stuck
noncomputable def mulW (own : Bool) (x y : W) (st : Store) : Res W := match asD st x, asD st y with
  | some (.int i), some (.int j) => if mulOk i j = true then .ok (.d (.int (i * j))) st else .stuck
  | some (.lst xs), some (.int k) => if repOk k = true then newL own (reps k xs) st else .stuck
  | some (.tup xs), some (.int k) => if tupOk k = true ∧ xs.length = 1 then newT (reps k xs) st else .stuck
  | _, _ => .stuck
def modW (x y : W) (st : Store) : Res W := match asD st x, asD st y with
  | some (.int i), some (.int j) => if 0 < j then .ok (.d (.int (i % j))) st else .stuck
  | _, _ => .stuck
noncomputable def fdivW (x y : W) (st : Store) : Res W := match asD st x, asD st y with
  | some (.int i), some (.int j) => if fdvOk j = true then .ok (.d (.int (i / j))) st else .stuck
  | _, _ => .stuck
noncomputable def powW (x y : W) (st : Store) : Res W := match asD st x, asD st y with
  | some (.int i), some (.int j) => if powOk i j = true then .ok (.d (.int (i ^ j.toNat))) st else .stuck
  | _, _ => .stuck
def negW (x : W) (st : Store) : Res W := match asD st x with
  | some (.int i) => .ok (.d (.int (-i))) st
  | _ => .stuck
def cmpW (p : Int → Int → Bool) (x y : W) (st : Store) : Res W := match asD st x, asD st y with
  | some (.int i), some (.int j) => .ok (.d (.bl (p i j))) st
  | _, _ => .stuck
def eqD (x y : D) : Option Bool := match x, y with
  | .dct a, .dct b => if (a.all fun p => p.2.fine && decide (p.2.dep ≤ 50)) && (b.all fun p => p.2.fine && decide (p.2.dep ≤ 50)) then some (dctEqv a b) else none
  | x, y => if x.fine && decide (x.dep ≤ 60) && y.fine && decide (y.dep ≤ 60) then some (x.eqv y) else none
def eqW (neg : Bool) (x y : W) (st : Store) : Res W := match asD st x, asD st y with
  | some a, some b => match eqD a b with
    | some r => .ok (.d (.bl (if neg then !r else r))) st
    | none => .stuck
  | _, _ => .stuck
def W.isExc : W → Bool
  | .exc => true
  | _ => false
def W.isNon : W → Bool
  | .d .non => true
  | _ => false
def isNonW (neg : Bool) (x : W) (st : Store) : Res W := .ok (.d (.bl (if neg then !x.isNon else x.isNon))) st
def isNonB (neg : Bool) (x y : W) (st : Store) : Res W := match y with
  | .d .non => isNonW neg x st
  | _ => .stuck
def isBlW (neg : Bool) (x y : W) (st : Store) : Res W := match x, y with
  | .d (.bl a), .d (.bl b) => .ok (.d (.bl (if neg then !(decide (a = b)) else decide (a = b)))) st
  | _, _ => .stuck
def isStr : D → Bool
  | .str _ => true
  | _ => false
def inW (neg : Bool) (x y : W) (st : Store) : Res W := match asD st x, asD st y with
  | some (.str k), some (.dct kvs) => .ok (.d (.bl (if neg then !(look k kvs).isSome else (look k kvs).isSome))) st
  | some (.str k), some (.lst ys) => if ys.all isStr then .ok (.d (.bl (if neg then !(ys.any fun z => z.eqv (.str k)) else ys.any fun z => z.eqv (.str k)))) st else .stuck
  | some (.str k), some (.tup ys) => if ys.all isStr then .ok (.d (.bl (if neg then !(ys.any fun z => z.eqv (.str k)) else ys.any fun z => z.eqv (.str k)))) st else .stuck
  | _, _ => .stuck
def ixW (x y : W) (st : Store) : Res W := match asD st x, asD st y with
  | some (.lst xs), some (.int i) => match atI xs i with
    | some v => .ok (.d v) st
    | none => .stuck
  | some (.tup xs), some (.int i) => match atI xs i with
    | some v => .ok (.d v) st
    | none => .stuck
  | some (.scr ns), some (.int i) => match atI ns i with
    | some v => .ok (.d (.int v)) st
    | none => .stuck
  | some (.dct kvs), some (.str k) => match look k kvs with
    | some v => .ok (.d v) st
    | none => .stuck
  | some (.str z), some (.int i) => if z.length ≤ sizeLine then (match atI z.cps.toList i with
    | some c => .ok (.d (.str ⟨#[c]⟩)) st
    | none => .stuck) else .stuck
  | _, _ => .stuck
/-- a table of the text -/
def tabW (T : List (Str × D)) (y : W) (st : Store) : Res W := match asD st y with
  | some (.str k) => match look k T with
    | some v => .ok (.d v) st
    | none => .stuck
  | _ => .stuck
def app1 (g : W → Store → Res W) : List W → Store → Res W
  | [x], st => g x st
  | _, _ => .stuck
def app2 (g : W → W → Store → Res W) : List W → Store → Res W
  | [x, y], st => g x y st
  | _, _ => .stuck
def noneO : M (Option Int) := fun _ st => .ok none st
def someO (a : M W) : M (Option Int) := fun env st => (a env st).bind fun x s1 => match asD s1 x with
  | some (.int i) => .ok (some i) s1
  | _ => .stuck
def slW (own : Bool) (x : W) (lo hi : Option Int) (st : Store) : Res W := match asD st x with
  | some (.lst xs) => newL own (cut xs lo hi) st
  | some (.tup xs) => newT (cut xs lo hi) st
  | some (.scr ns) => newL own ((cut ns lo hi).map .int) st
  | some (.str z) => if z.length ≤ sizeLine then .ok (.d (.str (cutS z lo hi))) st else .stuck
  | _ => .stuck
def slM (own : Bool) (a : M W) (lo hi : M (Option Int)) : M W := fun env st => (a env st).bind fun x s1 => (lo env s1).bind fun l s2 => (hi env s2).bind fun h s3 => slW own x l h s3
def lenW (x : W) (st : Store) : Res W := match asD st x with
  | some (.lst xs) => .ok (.d (.int xs.length)) st
  | some (.tup xs) => .ok (.d (.int xs.length)) st
  | some (.scr ns) => .ok (.d (.int ns.length)) st
  | some (.dct kvs) => .ok (.d (.int kvs.length)) st
  | some (.str z) => if z.length ≤ sizeLine then .ok (.d (.int z.length)) st else .stuck
  | _ => .stuck
def listW (own : Bool) (x : W) (st : Store) : Res W := match asD st x with
  | some (.lst xs) => newL own xs st
  | some (.tup xs) => newL own xs st
  | some (.dct kvs) => newL own (kvs.map fun p => .str p.1) st
  | _ => .stuck
def tupleW (x : W) (st : Store) : Res W := match asD st x with
  | some (.lst xs) => newT xs st
  | some (.tup xs) => newT xs st
  | _ => .stuck
def intW (x : W) (st : Store) : Res W := match asD st x with
  | some (.int i) => .ok (.d (.int i)) st
  | some (.bl b) => .ok (.d (.int (if b then 1 else 0))) st
  | _ => .stuck
noncomputable def strW (x : W) (st : Store) : Res W := match asD st x with
  | some (.int i) => if strOk9 i = true then .ok (.d (.str (toString i))) st else .stuck
  | _ => .stuck
def maxW (x y : W) (st : Store) : Res W := match asD st x, asD st y with
  | some (.int i), some (.int j) => .ok (.d (.int (if j > i then j else i))) st
  | _, _ => .stuck
def intsOf : List D → Option (List Int)
  | [] => some []
  | .int i :: r => (intsOf r).map (i :: ·)
  | _ :: _ => none
def maxI : Int → List Int → Int
  | m, [] => m
  | m, i :: r => maxI (if i > m then i else m) r
def maxLW (x : W) (st : Store) : Res W := match asD st x with
  | some (.lst xs) => match intsOf xs with
    | some (i :: r) => .ok (.d (.int (maxI i r))) st
    | _ => .stuck
  | _ => .stuck
def strsOf : List D → Option (List Str)
  | [] => some []
  | .str i :: r => (strsOf r).map (i :: ·)
  | _ :: _ => none
def joinS (a : Str) (y : W) (st : Store) : Res W := match asD st y with
  | some (.lst xs) => match strsOf xs with
    | some ys => if (ys.map (·.length)).sum + ys.length * a.length ≤ 16777216 then .ok (.d (.str (Txt.join a ys))) st else .stuck
    | none => .stuck
  | _ => .stuck
/-- the kinds that isinstance tells -/
inductive Ty where
  | str | int | bool | list | tuple
  deriving DecidableEq
def tyOf (st : Store) : W → Option String
  | .d .non => some "NoneType"
  | .d (.bl _) => some "bool"
  | .d (.int _) => some "int"
  | .d (.str _) => some "str"
  | .d (.tup _) => some "tuple"
  | .d (.lst _) => some "list"
  | .d (.dct _) => some "dict"
  | .d (.scr _) => none
  | .c k => match st[k]? with
    | some (.lst _) => some "list"
    | some (.dct _) => some "dict"
    | some (.obj _) => some "object"
    | some (.frz (.lst _)) => some "list"
    | some (.frz (.dct _)) => some "dict"
    | _ => none
  | .exc => none
def isiOne (t : String) (u : String) : Bool := t == u || (t == "bool" && u == "int")
def tupM (a : M (List W)) : M W := fun env st => (a env st).bind fun ws s1 => (toDs ws s1).bind fun ds s2 => newT ds s2
def lstM (own : Bool) (a : M (List W)) : M W := fun env st => (a env st).bind fun ws s1 => (toDs ws s1).bind fun ds s2 => newL own ds s2
/-! ### what changes a cell -/
def appendW (x y : W) (st : Store) : Res W := match x with
  | .c k => (toD y st).bind fun d s1 => match s1[k]? with
    | some (.lst xs) => if xs.length < sizeLine then .ok (.d .non) (s1.set k (.lst (xs ++ [d]))) else .stuck
    | _ => .stuck
  | _ => .stuck
def notC (k : Nat) : W → Bool
  | .c j => j != k
  | _ => true
def extendW (x y : W) (st : Store) : Res W := match x with
  | .c k => match st[k]?, asD st y with
    | some (.lst xs), some (.lst ys) => if xs.length + ys.length ≤ sizeLine ∧ notC k y = true then .ok (.d .non) (st.set k (.lst (xs ++ ys))) else .stuck
    | some (.lst xs), some (.tup ys) => if xs.length + ys.length ≤ sizeLine then .ok (.d .non) (st.set k (.lst (xs ++ ys))) else .stuck
    | _, _ => .stuck
  | _ => .stuck
def popW (x : W) (st : Store) : Res W := match x with
  | .c k => match st[k]? with
    | some (.lst xs) => match xs.getLast? with
      | some d => .ok (.d d) (st.set k (.lst xs.dropLast))
      | none => .stuck
    | _ => .stuck
  | _ => .stuck
def putF (f : Str) (w : W) : List (Str × W) → List (Str × W)
  | [] => [(f, w)]
  | (k, v) :: r => if k = f then (k, w) :: r else (k, v) :: putF f w r
def getF (f : Str) : List (Str × W) → Option W
  | [] => none
  | (k, v) :: r => if k = f then some v else getF f r
def fldW (f : Str) (x : W) (st : Store) : Res W := match x with
  | .c k => match st[k]? with
    | some (.obj fs) => match getF f fs with
      | some w => .ok w st
      | none => .stuck
    | _ => .stuck
  | _ => .stuck

def isLst (x : W) (st : Store) : Bool := match asD st x with
  | some (.lst _) => true
  | _ => false
def isDct (x : W) (st : Store) : Bool := match asD st x with
  | some (.dct _) => true
  | _ => false
/-- o.m(..), o a list -/
def methL (g : W → List W → Store → Res W) (o : M W) (a : M (List W)) : M W := fun env st => (o env st).bind fun x s1 => if isLst x s1 = true then (a env s1).bind fun ws s2 => g x ws s2 else .stuck
def methD (g : W → List W → Store → Res W) (o : M W) (a : M (List W)) : M W := fun env st => (o env st).bind fun x s1 => if isDct x s1 = true then (a env s1).bind fun ws s2 => g x ws s2 else .stuck
def arg0 (g : W → Store → Res W) : W → List W → Store → Res W
  | x, [], st => g x st
  | _, _, _ => .stuck
def arg1 (g : W → W → Store → Res W) : W → List W → Store → Res W
  | x, [y], st => g x y st
  | _, _, _ => .stuck
def arg2 (g : W → W → W → Store → Res W) : W → List W → Store → Res W
  | x, [y, z], st => g x y z st
  | _, _, _ => .stuck

/-! ### tests -/
def W.bl? : W → Option Bool
  | .d (.bl b) => some b
  | _ => none
def onBl {α : Type} (x : W) (k : Bool → Res α) : Res α := match x.bl? with
  | some b => k b
  | none => .stuck
@[simp] theorem onBl_bl {α : Type} (b : Bool) (k : Bool → Res α) : onBl (.d (.bl b)) k = k b := rfl
def tvM (a : M W) : M Bool := fun env st => (a env st).bind fun x s1 => onBl x fun b => .ok b s1
def truM (a : M W) : M Bool := fun env st => (a env st).bind fun x s1 => match asD s1 x with
  | some (.bl b) => .ok b s1
  | some (.lst xs) => .ok (!xs.isEmpty) s1
  | _ => .stuck
def andT (a b : M Bool) : M Bool := fun env st => (a env st).bind fun c s1 => if c = true then b env s1 else .ok false s1
def orT (a b : M Bool) : M Bool := fun env st => (a env st).bind fun c s1 => if c = true then .ok true s1 else b env s1
def notT (a : M Bool) : M Bool := fun env st => (a env st).bind fun c s1 => .ok (!c) s1
/-- .. as values -/
def andV (a b : M W) : M W := fun env st => (a env st).bind fun x s1 => onBl x fun c => if c = true then b env s1 else .ok (.d (.bl false)) s1
def orV (a b : M W) : M W := fun env st => (a env st).bind fun x s1 => onBl x fun c => if c = true then .ok (.d (.bl true)) s1 else b env s1
def notV (a : M W) : M W := fun env st => (a env st).bind fun x s1 => onBl x fun c => .ok (.d (.bl (!c))) s1

/-! ### what is walked -/
/-- the items of a list, a tuple (a live cell is frozen) -/
def itemsW (x : W) (st : Store) : Res (List D) := (toD x st).bind fun d s1 => match d with
  | .lst xs => .ok xs s1
  | .tup xs => .ok xs s1
  | _ => .stuck
def itM (a : M W) : M (List D) := fun env st => (a env st).bind itemsW
noncomputable def rngM (a : M W) : M (List D) := fun env st => (a env st).bind fun x s1 => match asD s1 x with
  | some (.int n) => if rngOk n = true then .ok ((List.range n.toNat).map fun (i : Nat) => .int (i : Int)) s1 else .stuck
  | _ => .stuck
/-- the target of a loop -/
inductive Tgt where
  | name (i : Nat) | pair (i j : Nat)
def setT (t : Tgt) (x : D) (env : Env) : Option Env := match t with
  | .name i => some (env.set i (some (.d x)))
  | .pair i j => match x with
    | .tup [a, b] => some ((env.set i (some (.d a))).set j (some (.d b)))
    | _ => none
/-- no error leaves a comprehension -/
def noErr {α : Type} (r : Res α) : Res α := match r with
  | .err _ _ => .stuck
  | r => r
@[simp] theorem noErr_ok {α : Type} (a : α) (st : Store) : noErr (.ok a st) = .ok a st := rfl
/-- a comprehension's turns -/
def lcLoop (i : Nat) (c : M Bool) (e : M W) : List D → List D → Env → Store → Res (List D)
  | [], acc, _, st => .ok acc st
  | x :: xs, acc, env, st => (noErr (c (env.set i (some (.d x))) st)).bind fun b s1 =>
    if b = true then (noErr (e (env.set i (some (.d x))) s1)).bind fun w s2 => (toD w s2).bind fun d s3 => if acc.length < sizeLine then lcLoop i c e xs (acc ++ [d]) env s3 else .stuck
    else lcLoop i c e xs acc env s1
def yesT : M Bool := fun _ st => .ok true st
def lcM (own : Bool) (it : M (List D)) (i : Nat) (c : M Bool) (e : M W) : M W := fun env st => (it env st).bind fun xs s1 => (lcLoop i c e xs [] env s1).bind fun ys s2 => newL own ys s2

/-! ### statements -/
def passS : MS := fun env st => .nx env st
def bindS {α : Type} (r : Res α) (env : Env) (k : α → Store → RS) : RS := match r with
  | .ok a st => k a st
  | .err c st => .err c env st
  | .stuck => .stuck
@[simp] theorem bindS_ok {α : Type} (a : α) (st : Store) (env : Env) (k : α → Store → RS) : bindS (.ok a st) env k = k a st := rfl
@[simp] theorem bindS_err {α : Type} (c : Exc) (st : Store) (env : Env) (k : α → Store → RS) : bindS (.err c st) env k = .err c env st := rfl
@[simp] theorem bindS_stuck {α : Type} (env : Env) (k : α → Store → RS) : bindS (.stuck) env k = .stuck := rfl
def seqM (a b : MS) : MS := fun env st => match a env st with
  | .nx env' st' => b env' st'
  | r => r
def asgM (i : Nat) (e : M W) : MS := fun env st => bindS (e env st) env fun w s1 => .nx (env.set i (some w)) s1
def sets : List Nat → List D → Env → Option Env
  | [], [], env => some env
  | i :: is, x :: xs, env => sets is xs (env.set i (some (.d x)))
  | _, _, _ => none
def asgTM (is : List Nat) (e : M W) : MS := fun env st => bindS (e env st) env fun w s1 => match asD s1 w with
  | some (.tup xs) => match sets is xs env with
    | some env' => .nx env' s1
    | none => .stuck
  | _ => .stuck
/-- x[i] = v, x a list -/
def setLM (x i v : M W) : MS := fun env st => bindS (v env st) env fun wv s1 => bindS (x env s1) env fun wx s2 => bindS (i env s2) env fun wi s3 =>
  bindS (toD wv s3) env fun d s4 => match wx with
    | .c k => match s4[k]?, asD s4 wi with
      | some (.lst xs), some (.int j) => match ixN xs.length j with
        | some n => .nx env (s4.set k (.lst (xs.set n d)))
        | none => .stuck
      | _, _ => .stuck
    | _ => .stuck
def setDM (x i v : M W) : MS := fun env st => bindS (v env st) env fun wv s1 => bindS (x env s1) env fun wx s2 => bindS (i env s2) env fun wi s3 =>
  bindS (toD wv s3) env fun d s4 => match wx with
    | .c k => match s4[k]?, asD s4 wi with
      | some (.dct kvs), some (.str s) => if kvs.length < sizeLine then .nx env (s4.set k (.dct (putD kvs s d))) else .stuck
      | _, _ => .stuck
    | _ => .stuck
def setFM (f : Str) (x v : M W) : MS := fun env st => bindS (v env st) env fun wv s1 => bindS (x env s1) env fun wx s2 => match wx with
  | .c k => match s2[k]? with
    | some (.obj fs) => if fs.length < 1000 ∧ wv.isExc = false then .nx env (s2.set k (.obj (putF f wv fs))) else .stuck
    | _ => .stuck
  | _ => .stuck
def expM (e : M W) : MS := fun env st => bindS (e env st) env fun _ s1 => .nx env s1
def retM (e : M W) : MS := fun env st => bindS (e env st) env fun w s1 => .ret w s1
def retN : MS := fun _ st => .ret (.d .non) st
def ifM (c : M Bool) (a b : MS) : MS := fun env st => bindS (c env st) env fun t s1 => if t = true then a env s1 else b env s1
def loopS (t : Tgt) (body : MS) : List D → Env → Store → RS
  | [], env, st => .nx env st
  | x :: xs, env, st => match setT t x env with
    | some env1 => match body env1 st with
      | .nx env' st' => loopS t body xs env' st'
      | r => r
    | none => .stuck
def forM (it : M (List D)) (t : Tgt) (body : MS) : MS := fun env st => bindS (it env st) env fun xs s1 => loopS t body xs env s1
def whileM (c : M Bool) (b : MS) : Nat → MS
  | 0 => fun _ _ => .stuck
  | n + 1 => fun env st => bindS (c env st) env fun t s1 => if t = true then (match b env s1 with
    | .nx env' st' => whileM c b n env' st'
    | r => r) else .nx env s1
def raiseM (c : Exc) : MS := fun env st => .err c env st
/-- no error leaves a suite -/
def noErrS (r : RS) : RS := match r with
  | .err _ _ _ => .stuck
  | r => r
def handle (c : Exc) : List (List Exc × MS) → MS
  | [] => fun env st => .err c env st
  | (cs, s) :: r => fun env st => if c ∈ cs then noErrS (s env st) else handle c r env st
def tryM (body : MS) (hs : List (List Exc × MS)) : MS := fun env st => match body env st with
  | .err c env' st' => handle c hs env' st'
  | r => r
/-! ### functions -/
/-- the objects are as they were -/
def Kept (st st' : Store) : Prop := st.length ≤ st'.length ∧ ∀ k fs, k < st.length → st'[k]? = some (.obj fs) → st[k]? = some (.obj fs)
open Classical in
/-- a call's end: the callee's own cells go -/
noncomputable def fin (st : Store) (w : W) (st' : Store) : Res W := if Kept st st' then (match w with
    | .d x => .ok (.d x) (st'.take st.length)
    | .c k => if k < st.length then .ok (.c k) (st'.take st.length) else (match st'[k]? with
      | some (.lst xs) => .ok (.c st.length) (st'.take st.length ++ [.lst xs])
      | some (.dct kvs) => .ok (.c st.length) (st'.take st.length ++ [.dct kvs])
      | some (.frz d) => .ok (.d d) (st'.take st.length)
      | _ => .stuck)
    | .exc => .stuck) else .stuck
open Classical in
noncomputable def finE (st : Store) (c : Exc) (st' : Store) : Res W := if Kept st st' then .err c (st'.take st.length) else .stuck
/-- a: the parameters; n: all slots -/
noncomputable def fnM (a n : Nat) (body : MS) : Fn := fun ws st => if ws.length = a then (match body (ws.map some ++ List.replicate (n - a) none) st with
  | .nx _ st' => fin st (.d .non) st'
  | .ret w st' => fin st w st'
  | .err c _ st' => finE st c st'
  | .stuck => .stuck) else .stuck
/-- a def that may change objects: its cells stay -/
def rawM (a n : Nat) (body : MS) : Fn := fun ws st => if ws.length = a then (match body (ws.map some ++ List.replicate (n - a) none) st with
  | .nx _ st' => .ok (.d .non) st'
  | .ret w st' => if w.isExc = true then .stuck else .ok w st'
  | .err c _ st' => .err c st'
  | .stuck => .stuck) else .stuck
/-- o.m() -/
def methM (m : Str) (F : Fn) (o : M W) : M W := fun env st => (o env st).bind fun x s1 => match x with
  | .c k => match s1[k]? with
    | some (.obj fs) => match getF m fs with
      | none => F [x] s1
      | some _ => .stuck
    | _ => .stuck
  | _ => .stuck
end Py

/-! How data, values, cells stand in the abstract heap; what a combinator wants of it. -/
namespace Py
open PySem L2

variable {K : PySem.W.Frag}
mutual
/-- data, by the frozen part G -/
inductive RepD (K : PySem.W.Frag) (G : Hp) : V → D → Prop
  | non : RepD K G .non .non
  | bl (b : Bool) : RepD K G (.bl b) (.bl b)
  | int (i : Int) : RepD K G (.int i) (.int i)
  | str (x : Str) : RepD K G (.str x) (.str x)
  | tup {a : Addr} {vs : List V} {xs : List D} : SqT K G a vs → RepL K G vs xs → RepD K G (.ref a) (.tup xs)
  | lst {a : Addr} {vs : List V} {xs : List D} : G a = some (.lst vs) → RepL K G vs xs → RepD K G (.ref a) (.lst xs)
  | dct {a : Addr} {ks : List (Key × V)} {kvs : List (Str × D)} : G a = some (.dK ks) → RepK K G ks kvs → RepD K G (.ref a) (.dct kvs)
  | scr {a : Addr} {ns : List Int} : SqL K G a (ns.map V.int) → RepD K G (.ref a) (.scr ns)
inductive RepL (K : PySem.W.Frag) (G : Hp) : List V → List D → Prop
  | nil : RepL K G [] []
  | cons {v : V} {vs : List V} {d : D} {ds : List D} : RepD K G v d → RepL K G vs ds → RepL K G (v :: vs) (d :: ds)
inductive RepK (K : PySem.W.Frag) (G : Hp) : List (Key × V) → List (Str × D) → Prop
  | nil : RepK K G [] []
  | cons {k : Str} {v : V} {ks : List (Key × V)} {d : D} {kvs : List (Str × D)} : RepD K G v d → RepK K G ks kvs → RepK K G ((.inr k, v) :: ks) ((k, d) :: kvs)
end

def GLe (G G' : Hp) : Prop := ∀ a o, G a = some o → G' a = some o
theorem GLe.refl (G : Hp) : GLe G G := fun _ _ h => h
theorem GLe.trans {G G1 G2 : Hp} (a : GLe G G1) (b : GLe G1 G2) : GLe G G2 := fun x o h => b x o (a x o h)
theorem GLe.sqL {G G' : Hp} {a : Addr} {xs : List V} (e : GLe G G') (h : SqL K G a xs) : SqL K G' a xs := Evl.ex_l e h
theorem GLe.sqT {G G' : Hp} {a : Addr} {xs : List V} (e : GLe G G') (h : SqT K G a xs) : SqT K G' a xs := Evl.ex_t e h

mutual
theorem RepD.mono {G G' : Hp} (e : GLe G G') : ∀ {v : V} {d : D}, RepD K G v d → RepD K G' v d
  | _, _, .non => .non
  | _, _, .bl b => .bl b
  | _, _, .int i => .int i
  | _, _, .str x => .str x
  | _, _, .tup h l => .tup (e.sqT h) (l.mono e)
  | _, _, .lst h l => .lst (e _ _ h) (l.mono e)
  | _, _, .dct h l => .dct (e _ _ h) (l.mono e)
  | _, _, .scr h => .scr (e.sqL h)
theorem RepL.mono {G G' : Hp} (e : GLe G G') : ∀ {v : List V} {d : List D}, RepL K G v d → RepL K G' v d
  | _, _, .nil => .nil
  | _, _, .cons h l => .cons (h.mono e) (l.mono e)
theorem RepK.mono {G G' : Hp} (e : GLe G G') : ∀ {v : List (Key × V)} {d : List (Str × D)}, RepK K G v d → RepK K G' v d
  | _, _, .nil => .nil
  | _, _, .cons h l => .cons (h.mono e) (l.mono e)
end

theorem RepL.length {G : Hp} : ∀ {vs : List V} {ds : List D}, RepL K G vs ds → vs.length = ds.length
  | _, _, .nil => rfl
  | _, _, .cons _ l => congrArg (· + 1) l.length
theorem RepL.append {G : Hp} {vs vs' : List V} {ds ds' : List D} : RepL K G vs ds → RepL K G vs' ds' → RepL K G (vs ++ vs') (ds ++ ds')
  | .nil, h => h
  | .cons r l, h => .cons r (l.append h)
theorem RepL.one {G : Hp} {v : V} {d : D} (h : RepD K G v d) : RepL K G [v] [d] := .cons h .nil
theorem RepL.take {G : Hp} : ∀ (n : Nat) {vs : List V} {ds : List D}, RepL K G vs ds → RepL K G (vs.take n) (ds.take n)
  | 0, _, _, _ => .nil
  | _ + 1, _, _, .nil => .nil
  | n + 1, _, _, .cons r l => .cons r (l.take n)
theorem RepL.drop {G : Hp} : ∀ (n : Nat) {vs : List V} {ds : List D}, RepL K G vs ds → RepL K G (vs.drop n) (ds.drop n)
  | 0, _, _, h => h
  | _ + 1, _, _, .nil => .nil
  | n + 1, _, _, .cons _ l => l.drop n
theorem RepL.get {G : Hp} : ∀ {i : Nat} {vs : List V} {ds : List D} {d : D}, RepL K G vs ds → ds[i]? = some d → ∃ v, vs[i]? = some v ∧ RepD K G v d
  | _, _, _, _, .nil, e => by simp at e
  | 0, _, _, _, .cons r _, e => by simp at e; subst e; exact ⟨_, rfl, r⟩
  | i + 1, _, _, _, .cons _ l, e => by
    obtain ⟨v, h1, h2⟩ := l.get (i := i) (by simpa using e)
    exact ⟨v, by simpa using h1, h2⟩
theorem RepL.set {G : Hp} {v : V} {d : D} (r : RepD K G v d) : ∀ (i : Nat) {vs : List V} {ds : List D}, RepL K G vs ds → RepL K G (vs.set i v) (ds.set i d)
  | _, _, _, .nil => .nil
  | 0, _, _, .cons _ l => .cons r l
  | i + 1, _, _, .cons q l => .cons q (l.set r i)
theorem RepL.reverse {G : Hp} : ∀ {vs : List V} {ds : List D}, RepL K G vs ds → RepL K G vs.reverse ds.reverse
  | _, _, .nil => .nil
  | _, _, .cons r l => by
    rw [List.reverse_cons, List.reverse_cons]
    exact l.reverse.append (.one r)
theorem RepL.dropLast {G : Hp} : ∀ {vs : List V} {ds : List D}, RepL K G vs ds → RepL K G vs.dropLast ds.dropLast
  | _, _, .nil => .nil
  | _, _, .cons r .nil => .nil
  | _, _, .cons r (.cons r' l) => .cons r (RepL.dropLast (.cons r' l))
theorem RepL.reps {G : Hp} {vs : List V} {ds : List D} (h : RepL K G vs ds) : ∀ n : Nat, RepL K G (List.replicate n vs).flatten (List.replicate n ds).flatten
  | 0 => .nil
  | n + 1 => by
    rw [List.replicate_succ, List.replicate_succ, List.flatten_cons, List.flatten_cons]
    exact h.append (h.reps n)
theorem RepL.cut {G : Hp} {vs : List V} {ds : List D} (h : RepL K G vs ds) (lo hi : Option Int) : RepL K G (cutV vs lo hi) (Py.cut ds lo hi) := by
  unfold cutV Py.cut
  rw [h.length]
  exact (h.drop _).take _
theorem RepL.ints {G : Hp} : ∀ ns : List Int, RepL K G (ns.map V.int) (ns.map D.int)
  | [] => .nil
  | n :: ns => .cons (.int n) (RepL.ints ns)
theorem RepL.strs {G : Hp} : ∀ {ds : List D} {vs : List V} {ys : List Str}, RepL K G vs ds → strsOf ds = some ys → vs = ys.map V.str
  | [], _, _, .nil, e => by
    cases e
    rfl
  | d :: ds, _, _, .cons r l, e => by
    cases r <;> simp only [strsOf, reduceCtorEq] at e
    cases q : strsOf ds with
    | none => rw [q] at e; cases e
    | some zs =>
      rw [q] at e
      cases e
      rw [RepL.strs l q]
      rfl
theorem RepL.intsOf {G : Hp} : ∀ {ds : List D} {vs : List V} {ys : List Int}, RepL K G vs ds → intsOf ds = some ys → vs = ys.map V.int
  | [], _, _, .nil, e => by
    cases e
    rfl
  | d :: ds, _, _, .cons r l, e => by
    cases r <;> simp only [Py.intsOf, reduceCtorEq] at e
    cases q : Py.intsOf ds with
    | none => rw [q] at e; cases e
    | some zs =>
      rw [q] at e
      cases e
      rw [RepL.intsOf l q]
      rfl
/-! ### dicts -/
theorem RepK.length {G : Hp} : ∀ {ks : List (Key × V)} {kvs : List (Str × D)}, RepK K G ks kvs → ks.length = kvs.length
  | _, _, .nil => rfl
  | _, _, .cons _ l => congrArg (· + 1) l.length
theorem valV_cons {k k' : Key} {v : V} {r : List (Key × V)} : valV ((k', v) :: r) k = if k' = k then some v else valV r k := by
  unfold valV
  by_cases h : k' = k
  · rw [if_pos h, List.find?_cons_of_pos (by simpa using h)]; rfl
  · rw [if_neg h, List.find?_cons_of_neg (by simpa using h)]
theorem RepK.look {G : Hp} {s : Str} : ∀ {ks : List (Key × V)} {kvs : List (Str × D)}, RepK K G ks kvs →
    (look s kvs = none ∧ valV ks (.inr s) = none) ∨ ∃ d v, look s kvs = some d ∧ valV ks (.inr s) = some v ∧ RepD K G v d
  | _, _, .nil => .inl ⟨rfl, rfl⟩
  | _, _, .cons (k := k) (v := v) (d := d) (kvs := kvs) r l => by
    rw [valV_cons]
    by_cases h : k = s
    · subst h
      refine .inr ⟨d, v, ?_, ?_, r⟩
      · show (if k = k then some d else _) = _
        rw [if_pos rfl]
      · rw [if_pos rfl]
    · have h' : ¬ (Sum.inr k : Key) = .inr s := fun e => h (Sum.inr.inj e)
      rw [if_neg h']
      have e : Py.look s ((k, d) :: kvs) = Py.look s kvs := if_neg h
      rw [e]
      exact l.look
theorem RepK.look_some {G : Hp} {s : Str} {ks : List (Key × V)} {kvs : List (Str × D)} {d : D} (h : RepK K G ks kvs) (e : Py.look s kvs = some d) : ∃ v, valV ks (.inr s) = some v ∧ RepD K G v d := by
  rcases h.look (s := s) with ⟨q, _⟩ | ⟨d', v, q, q2, r⟩
  · rw [q] at e; cases e
  · rw [q] at e; cases e; exact ⟨v, q2, r⟩
theorem RepK.isSome {G : Hp} {s : Str} {ks : List (Key × V)} {kvs : List (Str × D)} (h : RepK K G ks kvs) : (valV ks (.inr s)).isSome = (Py.look s kvs).isSome := by
  rcases h.look (s := s) with ⟨q, q2⟩ | ⟨d', v, q, q2, r⟩
  · rw [q, q2]; rfl
  · rw [q, q2]; rfl
theorem RepK.any {G : Hp} {s : Str} : ∀ {ks : List (Key × V)} {kvs : List (Str × D)}, RepK K G ks kvs → (ks.any fun kv => decide (kv.1 = Sum.inr s)) = kvs.any fun kv => decide (kv.1 = s)
  | _, _, .nil => rfl
  | _, _, .cons (k := k) _ l => by
    rw [List.any_cons, List.any_cons, l.any]
    have e : decide ((Sum.inr k : Key) = .inr s) = decide (k = s) := key_rr k s
    rw [e]
theorem RepK.append {G : Hp} {ks ks' : List (Key × V)} {kvs kvs' : List (Str × D)} : RepK K G ks kvs → RepK K G ks' kvs' → RepK K G (ks ++ ks') (kvs ++ kvs')
  | .nil, h => h
  | .cons r l, h => .cons r (l.append h)
theorem RepK.map {G : Hp} {s : Str} {v : V} {d : D} (r : RepD K G v d) : ∀ {ks : List (Key × V)} {kvs : List (Str × D)}, RepK K G ks kvs →
    RepK K G (ks.map fun kv => if kv.1 = Sum.inr s then (kv.1, v) else kv) (kvs.map fun kv => if kv.1 = s then (kv.1, d) else kv)
  | _, _, .nil => .nil
  | _, _, .cons (k := k) r' l => by
    rw [List.map_cons, List.map_cons]
    by_cases h : k = s
    · rw [if_pos (show (Sum.inr k : Key) = .inr s by rw [h]), if_pos h]
      exact .cons r (l.map r)
    · have h' : ¬ (Sum.inr k : Key) = .inr s := fun e => h (Sum.inr.inj e)
      rw [if_neg h', if_neg h]
      exact .cons r' (l.map r)
theorem RepK.put {G : Hp} {s : Str} {v : V} {d : D} {ks : List (Key × V)} {kvs : List (Str × D)} (h : RepK K G ks kvs) (r : RepD K G v d) : RepK K G (putK ks (.inr s) v) (putD kvs s d) := by
  unfold putK putD
  rw [h.any]
  split
  · exact h.map r
  · exact h.append (.cons r .nil)
theorem RepK.drop {G : Hp} {s : Str} : ∀ {ks : List (Key × V)} {kvs : List (Str × D)}, RepK K G ks kvs → RepK K G (dropK ks (.inr s)) (dropD kvs s)
  | _, _, .nil => .nil
  | _, _, .cons (k := k) r l => by
    unfold dropK dropD
    by_cases h : k = s
    · have h' : (Sum.inr k : Key) = .inr s := by rw [h]
      rw [List.filter_cons_of_neg (by simpa using h'), List.filter_cons_of_neg (by simpa using h)]
      exact l.drop
    · have h' : ¬ (Sum.inr k : Key) = .inr s := fun e => h (Sum.inr.inj e)
      rw [List.filter_cons_of_pos (by simpa using h'), List.filter_cons_of_pos (by simpa using h)]
      exact .cons r l.drop
theorem RepK.keys {G : Hp} : ∀ {ks : List (Key × V)} {kvs : List (Str × D)}, RepK K G ks kvs → RepL K G (ks.map fun kv => kV kv.1) (kvs.map fun p => D.str p.1)
  | _, _, .nil => .nil
  | _, _, .cons (k := k) _ l => .cons (.str k) l.keys
theorem RepK.zip {G : Hp} : ∀ {ks : List Str} {vs : List V} {ds : List D}, RepL K G vs ds → RepK K G ((ks.zip vs).map fun p => ((Sum.inr p.1 : Key), p.2)) (ks.zip ds)
  | [], _, _, _ => by simp; exact .nil
  | _ :: _, _, _, .nil => by simp; exact .nil
  | k :: ks, _, _, .cons r l => by
    rw [List.zip_cons_cons, List.zip_cons_cons, List.map_cons]
    exact .cons r (RepK.zip l)
end Py

/-! The state: frozen part G, cells' addresses m, cells st. -/
namespace Py
open PySem L2

/-- the class of the machine, the classes of the errors, the error that a suite holds -/
structure Pm where
  CM : Addr
  EC : Exc → Addr
  xa : Option Addr := none
def Pm.core (P : Pm) : Pm := { P with xa := none }

def RepW (K : PySem.W.Frag) (P : Pm) (G : Hp) (m : List Addr) (v : V) : W → Prop
  | .d x => RepD K G v x
  | .c k => ∃ a, m[k]? = some a ∧ v = .ref a
  | .exc => ∃ a, P.xa = some a ∧ v = .ref a
inductive RepWs (K : PySem.W.Frag) (P : Pm) (G : Hp) (m : List Addr) : List V → List W → Prop
  | nil : RepWs K P G m [] []
  | cons {v : V} {vs : List V} {w : W} {ws : List W} : RepW K P G m v w → RepWs K P G m vs ws → RepWs K P G m (v :: vs) (w :: ws)
inductive RepF (K : PySem.W.Frag) (P : Pm) (G : Hp) (m : List Addr) : List (Str × V) → List (Str × W) → Prop
  | nil : RepF K P G m [] []
  | cons {k : Str} {v : V} {vs : List (Str × V)} {w : W} {ws : List (Str × W)} : RepW K P.core G m v w → RepF K P G m vs ws → RepF K P G m ((k, v) :: vs) ((k, w) :: ws)

def CellOk (K : PySem.W.Frag) (P : Pm) (G : Hp) (m : List Addr) (H : Hp) (a : Addr) : Cell → Prop
  | .lst xs => G a = none ∧ ∃ vs, H a = some (.lst vs) ∧ RepL K G vs xs
  | .dct kvs => G a = none ∧ ∃ ks, H a = some (.dK ks) ∧ RepK K G ks kvs
  | .obj fs => G a = none ∧ ∃ dx vs, H a = some (.ins P.CM dx vs) ∧ RepF K P G m vs fs
  | .frz d => RepD K G (.ref a) d

structure RS0 (K : PySem.W.Frag) (P : Pm) (G : Hp) (m : List Addr) (H : Hp) (st : Store) : Prop where
  sub : ∀ a o, G a = some o → H a = some o
  len : m.length = st.length
  nd : m.Nodup
  inH : ∀ a ∈ m, H a ≠ none
  cell : ∀ (k : Nat) (a : Addr) (c : Cell), m[k]? = some a → st[k]? = some c → CellOk K P G m H a c
structure REnv (K : PySem.W.Frag) (P : Pm) (G : Hp) (m : List Addr) (σ : St) (env : Env) : Prop where
  len : σ.length = env.length
  get : ∀ (i : Nat) (w : W), env[i]? = some (some w) → ∃ v, σ[i]? = some (some v) ∧ RepW K P G m v w
structure Ext (G : Hp) (m : List Addr) (H : Hp) (G' : Hp) (m' : List Addr) (H' : Hp) : Prop where
  g : GLe G G'
  pre : m <+: m'
  new : ∀ b ∈ m', b ∈ m ∨ H b = none
  fr : ∀ b o, H b = some o → b ∉ m → H' b = some o
  th : ∀ b, H b ≠ none → H' b ≠ none
  gn : ∀ b, G' b ≠ none → G b ≠ none ∨ b ∈ m' ∨ H b = none

section
variable {K : PySem.W.Frag} {P : Pm} {G G' G1 G2 : Hp} {m m' m1 m2 : List Addr} {H H' H1 H2 : Hp} {st st' : Store} {σ : St} {env : Env}
theorem pre_get {k : Nat} {a : Addr} (h : m <+: m') (e : m[k]? = some a) : m'[k]? = some a := by
  obtain ⟨t, rfl⟩ := h
  rw [List.getElem?_append_left (List.getElem?_eq_some_iff.mp e).1]
  exact e
theorem RepW.mono {v : V} {w : W} (g : GLe G G') (p : m <+: m') (h : RepW K P G m v w) : RepW K P G' m' v w := by
  cases w with
  | d x => exact RepD.mono g h
  | c k => obtain ⟨a, e, q⟩ := h; exact ⟨a, pre_get p e, q⟩
  | exc => exact h
theorem RepWs.mono {v : List V} {w : List W} (g : GLe G G') (p : m <+: m') (h : RepWs K P G m v w) : RepWs K P G' m' v w := by
  induction h with
  | nil => exact .nil
  | cons r _ ih => exact .cons (r.mono g p) ih
theorem RepF.mono {v : List (Str × V)} {w : List (Str × W)} (g : GLe G G') (p : m <+: m') (h : RepF K P G m v w) : RepF K P G' m' v w := by
  induction h with
  | nil => exact .nil
  | cons r _ ih => exact .cons (r.mono g p) ih
theorem REnv.mono (g : GLe G G') (p : m <+: m') (h : REnv K P G m σ env) : REnv K P G' m' σ env :=
  ⟨h.len, fun i w e => let ⟨v, q, r⟩ := h.get i w e; ⟨v, q, r.mono g p⟩⟩
theorem REnv.set {i : Nat} {v : V} {w : W} (h : REnv K P G m σ env) (r : RepW K P G m v w) : REnv K P G m (σ.set i (some v)) (env.set i (some w)) := by
  refine ⟨by rw [List.length_set, List.length_set]; exact h.len, fun j w' e => ?_⟩
  by_cases hj : i = j
  · subst hj
    by_cases hl : i < env.length
    · rw [List.getElem?_set_self hl] at e
      cases e
      exact ⟨v, by rw [List.getElem?_set_self (by rw [h.len]; exact hl)], r⟩
    · rw [List.getElem?_eq_none (by rw [List.length_set]; omega)] at e
      cases e
  · rw [List.getElem?_set_ne hj] at e
    rw [List.getElem?_set_ne hj]
    exact h.get j w' e
theorem Ext.refl : Ext G m H G m H := ⟨GLe.refl G, List.prefix_refl m, fun _ h => .inl h, fun _ _ h _ => h, fun _ h => h, fun _ h => .inl h⟩
theorem Ext.trans (a : Ext G m H G1 m1 H1) (b : Ext G1 m1 H1 G2 m2 H2) : Ext G m H G2 m2 H2 := by
  refine ⟨a.g.trans b.g, a.pre.trans b.pre, fun x hx => ?_, fun x o h hm => ?_, fun x h => b.th x (a.th x h), fun x h => ?_⟩
  · rcases b.new x hx with h | h
    · exact a.new x h
    · cases q : H x with
      | none => exact .inr rfl
      | some o => exact absurd h (a.th x (by rw [q]; simp))
  · refine b.fr x o (a.fr x o h hm) fun hx => ?_
    rcases a.new x hx with q | q
    · exact hm q
    · rw [q] at h; cases h
  · rcases b.gn x h with h | h | h
    · rcases a.gn x h with h | h | h
      · exact .inl h
      · exact .inr (.inl (b.pre.subset h))
      · exact .inr (.inr h)
    · exact .inr (.inl h)
    · refine .inr (.inr ?_)
      cases q : H x with
      | none => rfl
      | some o => exact absurd h (a.th x (by rw [q]; simp))
/-- the state is the same: only the frozen part, the heap grow -/
theorem Ext.same (g : GLe G G') (fr : ∀ b o, H b = some o → H' b = some o) (gn : ∀ b, G' b ≠ none → G b ≠ none ∨ b ∈ m ∨ H b = none) : Ext G m H G' m H' :=
  ⟨g, List.prefix_refl m, fun _ h => .inl h, fun b o h _ => fr b o h, (fun b h => by
    cases q : H b with
    | none => exact absurd q h
    | some o => rw [fr b o q]; simp), gn⟩
theorem gn_upd {a : Addr} {o : HO} (h : a ∈ m ∨ H a = none) : ∀ b, (upd G a o) b ≠ none → G b ≠ none ∨ b ∈ m ∨ H b = none := fun b hb => by
  by_cases e : b = a
  · subst e; exact .inr h
  · rw [upd_ne e] at hb; exact .inl hb
theorem CellOk.mono {a : Addr} {c : Cell} (g : GLe G G') (p : m <+: m') (fr : ∀ o, H a = some o → H' a = some o) (ng : G a = none → G' a = none) (h : CellOk K P G m H a c) : CellOk K P G' m' H' a c := by
  cases c with
  | lst xs => obtain ⟨n, vs, e, r⟩ := h; exact ⟨ng n, vs, fr _ e, r.mono g⟩
  | dct xs => obtain ⟨n, vs, e, r⟩ := h; exact ⟨ng n, vs, fr _ e, r.mono g⟩
  | obj xs => obtain ⟨n, dx, vs, e, r⟩ := h; exact ⟨ng n, dx, vs, fr _ e, r.mono g p⟩
  | frz d => exact RepD.mono g h

/-! ### outcomes -/
/-- what is wanted of an error -/
def OutG {α β : Type} (K : PySem.W.Frag) (P : Pm) (G : Hp) (m : List Addr) (H : Hp) (Rp : Hp → List Addr → β → α → Prop) (r : Res α) (Q : β → Hp → Prop) (E : Exc → Hp → Prop) : Prop := match r with
  | .ok a st' => ∀ G' m' H' v, Ext G m H G' m' H' → RS0 K P G' m' H' st' → Rp G' m' v a → Q v H'
  | .err c st' => ∀ G' m' H', Ext G m H G' m' H' → RS0 K P G' m' H' st' → E c H'
  | .stuck => False
theorem OutG.shift {α β : Type} {Rp : Hp → List Addr → β → α → Prop} {r : Res α} {Q : β → Hp → Prop} {E : Exc → Hp → Prop} (h : OutG K P G m H Rp r Q E) (x : Ext G m H G' m' H') : OutG K P G' m' H' Rp r Q E := by
  cases r with
  | ok a st' => exact fun G2 m2 H2 v y s q => h G2 m2 H2 v (x.trans y) s q
  | err c st' => exact fun G2 m2 H2 y s => h G2 m2 H2 (x.trans y) s
  | stuck => exact h
/-- a reading -/
def rdG {α β : Type} (K : PySem.W.Frag) (P : Pm) (Wx : WX) (Rp : Hp → List Addr → β → α → Prop) (f : M α) : St → Hp → (β → Hp → Prop) → Prop := fun σ H Q =>
  ∃ G m env st, REnv K P G m σ env ∧ RS0 K P G m H st ∧ OutG K P G m H Rp (f env st) Q fun c H' => Wx (.ref (P.EC c)) none σ H'
abbrev rE (K : PySem.W.Frag) (P : Pm) (Wx : WX) (f : M W) : TE := rdG K P Wx (RepW K P) f
abbrev rT (K : PySem.W.Frag) (P : Pm) (Wx : WX) (f : M Bool) : TT := rdG K P Wx (fun _ _ b c => b = c) f
abbrev rA (K : PySem.W.Frag) (P : Pm) (Wx : WX) (f : M (List W)) : TA := rdG K P Wx (RepWs K P) f
abbrev rO (K : PySem.W.Frag) (P : Pm) (Wx : WX) (f : M (Option Int)) : TO := rdG K P Wx (fun _ _ b c => b = c) f
def OutS (K : PySem.W.Frag) (P : Pm) (Wx : WX) (G : Hp) (m : List Addr) (H : Hp) (r : RS) (D : Ends) : Prop := match r with
  | .nx env' st' => ∀ G' m' σ' H', Ext G m H G' m' H' → REnv K P G' m' σ' env' → RS0 K P G' m' H' st' → D.nx σ' H'
  | .ret w st' => ∀ G' m' H' v, Ext G m H G' m' H' → RS0 K P G' m' H' st' → RepW K P G' m' v w → D.rt v H'
  | .err c env' st' => ∀ G' m' σ' H', Ext G m H G' m' H' → REnv K P G' m' σ' env' → RS0 K P G' m' H' st' → Wx (.ref (P.EC c)) none σ' H'
  | .stuck => False
theorem OutS.shift {Wx : WX} {r : RS} {D : Ends} (h : OutS K P Wx G m H r D) (x : Ext G m H G' m' H') : OutS K P Wx G' m' H' r D := by
  cases r with
  | nx a st' => exact fun G2 m2 σ' H2 y e s => h G2 m2 σ' H2 (x.trans y) e s
  | ret a st' => exact fun G2 m2 H2 v y s q => h G2 m2 H2 v (x.trans y) s q
  | err c e st' => exact fun G2 m2 σ' H2 y e s => h G2 m2 σ' H2 (x.trans y) e s
  | stuck => exact h
def rS (K : PySem.W.Frag) (P : Pm) (Wx : WX) (f : MS) : TS := fun D σ H => ∃ G m env st, REnv K P G m σ env ∧ RS0 K P G m H st ∧ OutS K P Wx G m H (f env st) D

/-- the first part of a sequence -/
theorem goG {α β γ δ : Type} {Wx : WX} {Rp : Hp → List Addr → β → α → Prop} {Rp' : Hp → List Addr → δ → γ → Prop} {f : M α} {k : α → Store → Res γ} {Q : δ → Hp → Prop} {R : β → Hp → Prop}
    (hE : REnv K P G m σ env) (hS : RS0 K P G m H st) (ho : OutG K P G m H Rp' ((f env st).bind k) Q fun c H' => Wx (.ref (P.EC c)) none σ H')
    (hk : ∀ G1 m1 H1 v a st1, Ext G m H G1 m1 H1 → REnv K P G1 m1 σ env → RS0 K P G1 m1 H1 st1 → Rp G1 m1 v a → OutG K P G1 m1 H1 Rp' (k a st1) Q (fun c H' => Wx (.ref (P.EC c)) none σ H') → R v H1) :
    rdG K P Wx Rp f σ H R := by
  refine ⟨G, m, env, st, hE, hS, ?_⟩
  cases e : f env st with
  | ok a st1 =>
    rw [e] at ho
    exact fun G1 m1 H1 v x s q => hk G1 m1 H1 v a st1 x (hE.mono x.g x.pre) s q (ho.shift x)
  | err c st1 =>
    rw [e] at ho
    exact ho
  | stuck =>
    rw [e] at ho
    exact ho
theorem goS {α β : Type} {Wx : WX} {Rp : Hp → List Addr → β → α → Prop} {f : M α} {k : α → Store → RS} {D : Ends} {R : β → Hp → Prop}
    (hE : REnv K P G m σ env) (hS : RS0 K P G m H st) (ho : OutS K P Wx G m H (bindS (f env st) env k) D)
    (hk : ∀ G1 m1 H1 v a st1, Ext G m H G1 m1 H1 → REnv K P G1 m1 σ env → RS0 K P G1 m1 H1 st1 → Rp G1 m1 v a → OutS K P Wx G1 m1 H1 (k a st1) D → R v H1) :
    rdG K P Wx Rp f σ H R := by
  refine ⟨G, m, env, st, hE, hS, ?_⟩
  cases e : f env st with
  | ok a st1 =>
    rw [e] at ho
    exact fun G1 m1 H1 v x s q => hk G1 m1 H1 v a st1 x (hE.mono x.g x.pre) s q (ho.shift x)
  | err c st1 =>
    rw [e] at ho
    exact fun G1 m1 H1 x s => ho G1 m1 σ H1 x (hE.mono x.g x.pre) s
  | stuck =>
    rw [e] at ho
    exact ho

/-! ### what a value shows -/
theorem view {v : V} {w : W} {d : D} (hS : RS0 K P G m H st) (r : RepW K P G m v w) (e : asD st w = some d) :
    (∃ G0, GLe G G0 ∧ (∀ a o, G0 a = some o → H a = some o) ∧ RepD K G0 v d) := by
  cases w with
  | d x =>
    cases e
    exact ⟨G, GLe.refl G, hS.sub, r⟩
  | exc => cases e
  | c k =>
    obtain ⟨a, ha, rfl⟩ := r
    have e' : (match st[k]? with
      | some (.lst xs) => some (D.lst xs)
      | some (.dct kvs) => some (D.dct kvs)
      | some (.frz d) => some d
      | _ => none) = some d := e
    cases q : st[k]? with
    | none => rw [q] at e'; cases e'
    | some c =>
      rw [q] at e'
      have z := hS.cell k a c ha q
      cases c with
      | lst xs =>
        cases e'
        obtain ⟨n, vs, eh, rl⟩ := z
        have g : GLe G (upd G a (.lst vs)) := fun b o h => by rw [upd_ne (ne_of_none h n)]; exact h
        refine ⟨upd G a (.lst vs), g, fun b o h => ?_, .lst upd_same (rl.mono g)⟩
        by_cases hb : b = a
        · subst hb; rw [upd_same] at h; cases h; exact eh
        · rw [upd_ne hb] at h; exact hS.sub b o h
      | dct xs =>
        cases e'
        obtain ⟨n, vs, eh, rl⟩ := z
        have g : GLe G (upd G a (.dK vs)) := fun b o h => by rw [upd_ne (ne_of_none h n)]; exact h
        refine ⟨upd G a (.dK vs), g, fun b o h => ?_, .dct upd_same (rl.mono g)⟩
        by_cases hb : b = a
        · subst hb; rw [upd_same] at h; cases h; exact eh
        · rw [upd_ne hb] at h; exact hS.sub b o h
      | obj fs => cases e'
      | frz x => cases e'; exact ⟨G, GLe.refl G, hS.sub, z⟩
theorem view_int {v : V} {w : W} {i : Int} (hS : RS0 K P G m H st) (r : RepW K P G m v w) (e : asD st w = some (.int i)) : v = .int i := by
  obtain ⟨_, _, _, q⟩ := view hS r e
  cases q; rfl
theorem view_bl {v : V} {w : W} {i : Bool} (hS : RS0 K P G m H st) (r : RepW K P G m v w) (e : asD st w = some (.bl i)) : v = .bl i := by
  obtain ⟨_, _, _, q⟩ := view hS r e
  cases q; rfl
theorem view_str {v : V} {w : W} {i : Str} (hS : RS0 K P G m H st) (r : RepW K P G m v w) (e : asD st w = some (.str i)) : v = .str i := by
  obtain ⟨_, _, _, q⟩ := view hS r e
  cases q; rfl
theorem view_lst {v : V} {w : W} {xs : List D} (hS : RS0 K P G m H st) (r : RepW K P G m v w) (e : asD st w = some (.lst xs)) : ∃ a vs, v = .ref a ∧ H a = some (.lst vs) ∧ RepL K G vs xs := by
  cases w with
  | d x =>
    cases e
    cases r with
    | lst h l => exact ⟨_, _, rfl, hS.sub _ _ h, l⟩
  | exc => cases e
  | c k =>
    obtain ⟨a, ha, rfl⟩ := r
    have e' : (match st[k]? with
      | some (.lst xs) => some (D.lst xs)
      | some (.dct kvs) => some (D.dct kvs)
      | some (.frz d) => some d
      | _ => none) = some (.lst xs) := e
    cases q : st[k]? with
    | none => rw [q] at e'; cases e'
    | some c =>
      rw [q] at e'
      have z := hS.cell k a c ha q
      cases c with
      | lst ys =>
        cases e'
        obtain ⟨n, vs, eh, rl⟩ := z
        exact ⟨a, vs, rfl, eh, rl⟩
      | dct _ => cases e'
      | obj _ => cases e'
      | frz x =>
        cases e'
        cases z with
        | lst h l => exact ⟨_, _, rfl, hS.sub _ _ h, l⟩
theorem view_dct {v : V} {w : W} {xs : List (Str × D)} (hS : RS0 K P G m H st) (r : RepW K P G m v w) (e : asD st w = some (.dct xs)) : ∃ a vs, v = .ref a ∧ H a = some (.dK vs) ∧ RepK K G vs xs := by
  cases w with
  | d x =>
    cases e
    cases r with
    | dct h l => exact ⟨_, _, rfl, hS.sub _ _ h, l⟩
  | exc => cases e
  | c k =>
    obtain ⟨a, ha, rfl⟩ := r
    have e' : (match st[k]? with
      | some (.lst xs) => some (D.lst xs)
      | some (.dct kvs) => some (D.dct kvs)
      | some (.frz d) => some d
      | _ => none) = some (.dct xs) := e
    cases q : st[k]? with
    | none => rw [q] at e'; cases e'
    | some c =>
      rw [q] at e'
      have z := hS.cell k a c ha q
      cases c with
      | lst _ => cases e'
      | dct ys =>
        cases e'
        obtain ⟨n, vs, eh, rl⟩ := z
        exact ⟨a, vs, rfl, eh, rl⟩
      | obj _ => cases e'
      | frz x =>
        cases e'
        cases z with
        | dct h l => exact ⟨_, _, rfl, hS.sub _ _ h, l⟩
theorem RS0.sqT {a : Addr} {vs : List V} (hS : RS0 K P G m H st) (h : SqT K G a vs) : SqT K H a vs := Evl.ex_t hS.sub h
theorem RS0.sqL {a : Addr} {vs : List V} (hS : RS0 K P G m H st) (h : SqL K G a vs) : SqL K H a vs := Evl.ex_l hS.sub h
theorem view_frz {w : W} {d : D} (e : asD st w = some d) (hd : (∀ xs, d ≠ .lst xs) ∧ ∀ xs, d ≠ .dct xs) : w = .d d ∨ ∃ k, w = .c k ∧ st[k]? = some (.frz d) := by
  cases w with
  | d x => cases e; exact .inl rfl
  | exc => cases e
  | c k =>
    have e' : (match st[k]? with
      | some (.lst xs) => some (D.lst xs)
      | some (.dct kvs) => some (D.dct kvs)
      | some (.frz d) => some d
      | _ => none) = some d := e
    cases q : st[k]? with
    | none => rw [q] at e'; cases e'
    | some c =>
      rw [q] at e'
      cases c with
      | lst ys => cases e'; exact absurd rfl (hd.1 ys)
      | dct ys => cases e'; exact absurd rfl (hd.2 ys)
      | obj _ => cases e'
      | frz x => cases e'; exact .inr ⟨k, rfl, q⟩
theorem view_plain {v : V} {w : W} {d : D} (hS : RS0 K P G m H st) (r : RepW K P G m v w) (e : asD st w = some d) (hd : (∀ xs, d ≠ .lst xs) ∧ ∀ xs, d ≠ .dct xs) : RepD K G v d := by
  rcases view_frz e hd with rfl | ⟨k, rfl, q⟩
  · exact r
  · obtain ⟨a, ha, rfl⟩ := r
    exact hS.cell k a _ ha q
theorem view_tup {v : V} {w : W} {xs : List D} (hS : RS0 K P G m H st) (r : RepW K P G m v w) (e : asD st w = some (.tup xs)) : ∃ a vs, v = .ref a ∧ SqT K G a vs ∧ RepL K G vs xs := by
  cases view_plain hS r e ⟨(fun _ h => nomatch h), (fun _ h => nomatch h)⟩ with
  | tup h l => exact ⟨_, _, rfl, h, l⟩
theorem view_scr {v : V} {w : W} {ns : List Int} (hS : RS0 K P G m H st) (r : RepW K P G m v w) (e : asD st w = some (.scr ns)) : ∃ a, v = .ref a ∧ SqL K G a (ns.map V.int) := by
  cases view_plain hS r e ⟨(fun _ h => nomatch h), (fun _ h => nomatch h)⟩ with
  | scr h => exact ⟨_, rfl, h⟩

/-! ### the state changes -/
theorem RS0.fresh_not_mem {p : Addr} (hS : RS0 K P G m H st) (hp : H p = none) : p ∉ m := fun h => hS.inH p h hp
theorem RS0.freshG {p : Addr} (hS : RS0 K P G m H st) (hp : H p = none) : G p = none := by
  cases q : G p with
  | none => rfl
  | some o => rw [hS.sub p o q] at hp; cases hp
/-- new frozen data at p -/
theorem RS0.newD {p : Addr} {o : HO} (hS : RS0 K P G m H st) (hp : H p = none) : RS0 K P (upd G p o) m (upd H p o) st ∧ Ext G m H (upd G p o) m (upd H p o) := by
  have gp := hS.freshG hp
  have g : GLe G (upd G p o) := fun b u h => by rw [upd_ne (ne_of_none h gp)]; exact h
  have fr : ∀ b u, H b = some u → (upd H p o) b = some u := fun b u h => by rw [upd_ne (ne_of_none h hp)]; exact h
  have ext : Ext G m H (upd G p o) m (upd H p o) := .same g fr (gn_upd (.inr hp))
  refine ⟨⟨fun b u h => ?_, hS.len, hS.nd, fun a ha => ext.th a (hS.inH a ha), fun k a c ha hc => ?_⟩, ext⟩
  · by_cases hb : b = p
    · subst hb; rw [upd_same] at h ⊢; exact h
    · rw [upd_ne hb] at h; exact fr b u (hS.sub b u h)
  · have hne : a ≠ p := fun z => hS.fresh_not_mem hp (z ▸ List.mem_of_getElem? ha)
    exact (hS.cell k a c ha hc).mono g (List.prefix_refl m) (fun u h => fr a u h) fun n => by rw [upd_ne hne]; exact n
/-- a new cell at p -/
theorem RS0.newC {p : Addr} {o : HO} {c : Cell} (hS : RS0 K P G m H st) (hp : H p = none) (hc : CellOk K P G (m ++ [p]) (upd H p o) p c) : RS0 K P G (m ++ [p]) (upd H p o) (st ++ [c]) ∧ Ext G m H G (m ++ [p]) (upd H p o) := by
  have fr : ∀ b u, H b = some u → (upd H p o) b = some u := fun b u h => by rw [upd_ne (ne_of_none h hp)]; exact h
  have ext : Ext G m H G (m ++ [p]) (upd H p o) := ⟨GLe.refl G, List.prefix_append m [p], fun b hb => by
    rcases List.mem_append.mp hb with h | h
    · exact .inl h
    · rw [List.mem_singleton] at h; subst h; exact .inr hp, fun b u h _ => fr b u h, fun b h => by
    cases q : H b with
    | none => exact absurd q h
    | some u => rw [fr b u q]; simp, fun _ h => .inl h⟩
  refine ⟨⟨fun b u h => fr b u (hS.sub b u h), by simp [hS.len], ?_, fun a ha => ?_, fun k a c' ha hc' => ?_⟩, ext⟩
  · rw [List.nodup_append]
    refine ⟨hS.nd, by simp, fun a h b hb => ?_⟩
    rw [List.mem_singleton] at hb
    subst hb
    intro z
    subst z
    exact hS.fresh_not_mem hp h
  · rcases List.mem_append.mp ha with h | h
    · exact ext.th a (hS.inH a h)
    · rw [List.mem_singleton] at h; subst h; rw [upd_same]; simp
  · by_cases hk : k < m.length
    · rw [List.getElem?_append_left hk] at ha
      rw [List.getElem?_append_left (by rw [← hS.len]; exact hk)] at hc'
      exact (hS.cell k a c' ha hc').mono (GLe.refl G) (List.prefix_append m [p]) (fun u h => fr a u h) fun n => n
    · have hk' : k = m.length := by
        have := (List.getElem?_eq_some_iff.mp ha).1
        rw [List.length_append, List.length_singleton] at this
        omega
      subst hk'
      rw [List.getElem?_append_right (Nat.le_refl _)] at ha
      rw [hS.len, List.getElem?_append_right (Nat.le_refl _)] at hc'
      simp at ha hc'
      subst ha hc'
      exact hc
theorem pre_self {k : Nat} {a : Addr} (h : m <+: m') (hl : k < m.length) (e : m'[k]? = some a) : m[k]? = some a := by
  obtain ⟨t, rfl⟩ := h
  rw [List.getElem?_append_left hl] at e
  exact e
/-- a live cell is written -/
theorem RS0.write {k : Nat} {a : Addr} {o : HO} {c : Cell} (hS : RS0 K P G m H st) (ha : m[k]? = some a) (hg : G a = none) (hc : CellOk K P G m (upd H a o) a c) : RS0 K P G m (upd H a o) (st.set k c) ∧ Ext G m H G m (upd H a o) := by
  have hin := List.mem_of_getElem? ha
  have ext : Ext G m H G m (upd H a o) := ⟨GLe.refl G, List.prefix_refl m, fun _ h => .inl h, fun b u h hm => by
    rw [upd_ne (show b ≠ a from fun z => hm (by rw [z]; exact hin))]; exact h, fun b h => by
    by_cases hb : b = a
    · subst hb; rw [upd_same]; simp
    · rw [upd_ne hb]; exact h, fun _ h => .inl h⟩
  refine ⟨⟨fun b u h => ?_, by rw [List.length_set]; exact hS.len, hS.nd, fun b hb => ext.th b (hS.inH b hb), fun j b c' hb hc' => ?_⟩, ext⟩
  · rw [upd_ne (ne_of_none h hg)]; exact hS.sub b u h
  · by_cases hj : j = k
    · subst hj
      rw [ha] at hb; cases hb
      have hl : j < st.length := by rw [← hS.len]; exact (List.getElem?_eq_some_iff.mp ha).1
      rw [List.getElem?_set_self hl] at hc'
      cases hc'
      exact hc
    · rw [List.getElem?_set_ne (Ne.symm hj)] at hc'
      have hne : b ≠ a := fun z => by
        subst z
        obtain ⟨h1, e1⟩ := List.getElem?_eq_some_iff.mp ha
        obtain ⟨h2, e2⟩ := List.getElem?_eq_some_iff.mp hb
        exact hj ((List.getElem_inj hS.nd).mp (e2.trans e1.symm))
      exact (hS.cell j b c' hb hc').mono (GLe.refl G) (List.prefix_refl m) (fun u h => by rw [upd_ne hne]; exact h) fun n => n
/-- a live cell is frozen -/
theorem RS0.freeze {k : Nat} {a : Addr} {o : HO} {d : D} (hS : RS0 K P G m H st) (ha : m[k]? = some a) (hg : G a = none) (ho : H a = some o) (hd : RepD K (upd G a o) (.ref a) d) : RS0 K P (upd G a o) m H (st.set k (.frz d)) ∧ Ext G m H (upd G a o) m H := by
  have g : GLe G (upd G a o) := fun b u h => by rw [upd_ne (ne_of_none h hg)]; exact h
  have ext : Ext G m H (upd G a o) m H := .same g (fun _ _ h => h) (gn_upd (.inl (List.mem_of_getElem? ha)))
  refine ⟨⟨fun b u h => ?_, by rw [List.length_set]; exact hS.len, hS.nd, hS.inH, fun j b c' hb hc' => ?_⟩, ext⟩
  · by_cases hb : b = a
    · subst hb; rw [upd_same] at h; cases h; exact ho
    · rw [upd_ne hb] at h; exact hS.sub b u h
  · by_cases hj : j = k
    · subst hj
      rw [ha] at hb; cases hb
      have hl : j < st.length := by rw [← hS.len]; exact (List.getElem?_eq_some_iff.mp ha).1
      rw [List.getElem?_set_self hl] at hc'
      cases hc'
      exact hd
    · rw [List.getElem?_set_ne (Ne.symm hj)] at hc'
      have hne : b ≠ a := fun z => by
        subst z
        obtain ⟨h1, e1⟩ := List.getElem?_eq_some_iff.mp ha
        obtain ⟨h2, e2⟩ := List.getElem?_eq_some_iff.mp hb
        exact hj ((List.getElem_inj hS.nd).mp (e2.trans e1.symm))
      exact (hS.cell j b c' hb hc').mono g (List.prefix_refl m) (fun u h => h) fun n => by rw [upd_ne hne]; exact n
/-- a value becomes data -/
theorem RS0.toD {v : V} {w : W} {d : D} (hS : RS0 K P G m H st) (r : RepW K P G m v w) (e : asD st w = some d) :
    ∃ G', RS0 K P G' m H (frzW w d st) ∧ Ext G m H G' m H ∧ RepD K G' v d := by
  cases w with
  | d x => cases e; exact ⟨G, hS, .refl, r⟩
  | exc => cases e
  | c k =>
    obtain ⟨a, ha, rfl⟩ := r
    have e' : (match st[k]? with
      | some (.lst xs) => some (D.lst xs)
      | some (.dct kvs) => some (D.dct kvs)
      | some (.frz d) => some d
      | _ => none) = some d := e
    cases q : st[k]? with
    | none => rw [q] at e'; cases e'
    | some c =>
      rw [q] at e'
      have z := hS.cell k a c ha q
      cases c with
      | lst xs =>
        cases e'
        obtain ⟨n, vs, eh, rl⟩ := z
        have g : GLe G (upd G a (.lst vs)) := fun b o h => by rw [upd_ne (ne_of_none h n)]; exact h
        have hd : RepD K (upd G a (.lst vs)) (.ref a) (.lst xs) := .lst upd_same (rl.mono g)
        obtain ⟨s1, x1⟩ := hS.freeze ha n eh hd
        exact ⟨_, s1, x1, hd⟩
      | dct xs =>
        cases e'
        obtain ⟨n, vs, eh, rl⟩ := z
        have g : GLe G (upd G a (.dK vs)) := fun b o h => by rw [upd_ne (ne_of_none h n)]; exact h
        have hd : RepD K (upd G a (.dK vs)) (.ref a) (.dct xs) := .dct upd_same (rl.mono g)
        obtain ⟨s1, x1⟩ := hS.freeze ha n eh hd
        exact ⟨_, s1, x1, hd⟩
      | obj fs => cases e'
      | frz x =>
        cases e'
        have es : st.set k (.frz d) = st := by
          obtain ⟨hl, e2⟩ := List.getElem?_eq_some_iff.mp q
          rw [← e2]
          exact List.set_getElem_self hl
        exact ⟨G, by show RS0 K P G m H (st.set k (.frz d)); rw [es]; exact hS, .refl, z⟩
theorem RS0.toDs : ∀ {ws : List W} {vs : List V} {ds : List D} {G : Hp} {st st' : Store}, RS0 K P G m H st → RepWs K P G m vs ws → toDs ws st = .ok ds st' →
    ∃ G', RS0 K P G' m H st' ∧ Ext G m H G' m H ∧ RepL K G' vs ds
  | [], _, _, G, st, st', hS, .nil, e => by
    cases e
    exact ⟨G, hS, .refl, .nil⟩
  | w :: ws, _, ds, G, st, st', hS, .cons r rs, e => by
    have e' : (Py.toD w st).bind (fun d st1 => (Py.toDs ws st1).bind fun ds st2 => .ok (d :: ds) st2) = .ok ds st' := e
    cases q : asD st w with
    | none => simp only [Py.toD, q, Res.bind_stuck, reduceCtorEq] at e'
    | some d =>
      simp only [Py.toD, q, Res.bind_ok] at e'
      obtain ⟨G1, s1, x1, r1⟩ := hS.toD r q
      cases q2 : Py.toDs ws (frzW w d st) with
      | err c s => rw [q2] at e'; cases e'
      | stuck => rw [q2] at e'; cases e'
      | ok ds2 st2 =>
        rw [q2] at e'
        cases e'
        obtain ⟨G2, s2, x2, r2⟩ := RS0.toDs s1 (rs.mono x1.g x1.pre) q2
        exact ⟨G2, s2, x1.trans x2, .cons (r1.mono x2.g) r2⟩
end
end Py

/-! One rule a construct: expressions. -/
namespace Py
open PySem L2

abbrev SE (X : Cx) (P : Pm) (Wx : WX) (e : Expr) (f : M W) : Prop := PE X e (rE X.K P Wx f)
abbrev ST (X : Cx) (P : Pm) (Wx : WX) (e : Expr) (f : M Bool) : Prop := PT X e (rT X.K P Wx f)
abbrev SA (X : Cx) (P : Pm) (Wx : WX) (es : List Expr) (f : M (List W)) : Prop := PA X es (rA X.K P Wx f)
abbrev SO (X : Cx) (P : Pm) (Wx : WX) (e : Option Expr) (f : M (Option Int)) : Prop := PO X e (rO X.K P Wx f)

theorem conv {X : Cx} {e : Expr} {t t' : TE} (h : PE X e t) (c : ∀ σ H Q, t' σ H Q → t σ H Q) : PE X e t' := ⟨fun pins s σ H Q I q => h.run pins s σ H Q I (c σ H Q q)⟩
theorem convT {X : Cx} {e : Expr} {t t' : TT} (h : PT X e t) (c : ∀ σ H Q, t' σ H Q → t σ H Q) : PT X e t' := ⟨fun pins s σ H Q I q => h.run pins s σ H Q I (c σ H Q q)⟩
theorem convA {X : Cx} {e : List Expr} {t t' : TA} (h : PA X e t) (c : ∀ σ H Q, t' σ H Q → t σ H Q) : PA X e t' := ⟨fun pos pins s σ H Q I q => h.run pos pins s σ H Q I (c σ H Q q)⟩
theorem convO {X : Cx} {e : Option Expr} {t t' : TO} (h : PO X e t) (c : ∀ σ H Q, t' σ H Q → t σ H Q) : PO X e t' := ⟨fun pins s σ H Q I q => h.run pins s σ H Q I (c σ H Q q)⟩
theorem opOr {X : Cx} {f : Value → Value → Sem Value} {r r' : R2} (h : OpR X f r) (h' : OpR X f r') : OpR X f (fun x y H Q => r x y H Q ∨ r' x y H Q) := fun pins s σ H x y v u Q I rx ry q =>
  q.elim (h pins s σ H x y v u Q I rx ry) (h' pins s σ H x y v u Q I rx ry)
theorem callOr {X : Cx} {f : Value} {r r' : List V → Hp → VK → Prop} (h : CallR X f r) (h' : CallR X f r') : CallR X f (fun xs H Q => r xs H Q ∨ r' xs H Q) := fun pins s σ H xs us Q I rx q =>
  q.elim (h pins s σ H xs us Q I rx) (h' pins s σ H xs us Q I rx)

section
variable {K : PySem.W.Frag} {P : Pm} {G : Hp} {m : List Addr} {H : Hp} {st : Store} {Q : VK} {E : Exc → Hp → Prop}
/-! ### results -/
theorem out_ok {v : V} {w : W} (h : OutG K P G m H (RepW K P) (.ok w st) Q E) (hS : RS0 K P G m H st) (r : RepW K P G m v w) : Q v H := h G m H v .refl hS r
theorem out_newL {own : Bool} {xs : List D} {vs : List V} (h : OutG K P G m H (RepW K P) (newL own xs st) Q E) (hS : RS0 K P G m H st) (r : RepL K G vs xs) : vs.length ≤ sizeLine ∧ ∀ p, H p = none → Q (.ref p) (upd H p (.lst vs)) := by
  unfold newL at h
  by_cases hz : xs.length ≤ sizeLine
  · rw [if_pos hz] at h
    refine ⟨by rw [r.length]; exact hz, fun p hp => ?_⟩
    by_cases ho : own = true
    · rw [if_pos ho] at h
      have hc : CellOk K P G (m ++ [p]) (upd H p (.lst vs)) p (.lst xs) := ⟨hS.freshG hp, vs, upd_same, r⟩
      obtain ⟨s1, x1⟩ := hS.newC hp hc
      exact h G (m ++ [p]) _ (.ref p) x1 s1 ⟨p, by rw [← hS.len, List.getElem?_append_right (Nat.le_refl _)]; simp, rfl⟩
    · rw [if_neg ho] at h
      obtain ⟨s1, x1⟩ := hS.newD (o := .lst vs) hp
      exact h _ m _ (.ref p) x1 s1 (.lst upd_same (r.mono x1.g))
  · rw [if_neg hz] at h
    exact h.elim
theorem out_newT {xs : List D} {vs : List V} (h : OutG K P G m H (RepW K P) (newT xs st) Q E) (hS : RS0 K P G m H st) (r : RepL K G vs xs) : vs.length ≤ sizeLine ∧ ∀ p, H p = none → Q (.ref p) (upd H p (.tup vs)) := by
  unfold newT at h
  by_cases hz : xs.length ≤ sizeLine
  · rw [if_pos hz] at h
    refine ⟨by rw [r.length]; exact hz, fun p hp => ?_⟩
    obtain ⟨s1, x1⟩ := hS.newD (o := .tup vs) hp
    exact h _ m _ (.ref p) x1 s1 (.tup (SqT.of upd_same) (r.mono x1.g))
  · rw [if_neg hz] at h
    exact h.elim
theorem out_sameT {xs : List D} {v : V} (h : OutG K P G m H (RepW K P) (newT xs st) Q E) (hS : RS0 K P G m H st) (r : RepD K G v (.tup xs)) : Q v H := by
  unfold newT at h
  by_cases hz : xs.length ≤ sizeLine
  · rw [if_pos hz] at h
    exact h G m H v .refl hS r
  · rw [if_neg hz] at h
    exact h.elim
theorem out_newDc {own : Bool} {xs : List (Str × D)} {vs : List (Key × V)} (h : OutG K P G m H (RepW K P) (newDc own xs st) Q E) (hS : RS0 K P G m H st) (r : RepK K G vs xs) : ∀ p, H p = none → Q (.ref p) (upd H p (.dK vs)) := fun p hp => by
  unfold newDc at h
  by_cases ho : own = true
  · rw [if_pos ho] at h
    have hc : CellOk K P G (m ++ [p]) (upd H p (.dK vs)) p (.dct xs) := ⟨hS.freshG hp, vs, upd_same, r⟩
    obtain ⟨s1, x1⟩ := hS.newC hp hc
    exact h G (m ++ [p]) _ (.ref p) x1 s1 ⟨p, by rw [← hS.len, List.getElem?_append_right (Nat.le_refl _)]; simp, rfl⟩
  · rw [if_neg ho] at h
    obtain ⟨s1, x1⟩ := hS.newD (o := .dK vs) hp
    exact h _ m _ (.ref p) x1 s1 (.dct upd_same (r.mono x1.g))
/-- heap objects that no value speaks of -/
theorem RS0.grow {p : Addr} {o : HO} (hS : RS0 K P G m H st) (hp : H p = none) : RS0 K P G m (upd H p o) st ∧ Ext G m H G m (upd H p o) := by
  have fr : ∀ b u, H b = some u → (upd H p o) b = some u := fun b u h => by rw [upd_ne (ne_of_none h hp)]; exact h
  have ext : Ext G m H G m (upd H p o) := .same (GLe.refl G) fr fun _ h => .inl h
  exact ⟨⟨fun b u h => fr b u (hS.sub b u h), hS.len, hS.nd, fun a ha => ext.th a (hS.inH a ha), fun k a c ha hc => (hS.cell k a c ha hc).mono (GLe.refl G) (List.prefix_refl m) (fun u h => fr a u h) fun n => n⟩, ext⟩

/-- what an operation by values gives -/
def BinOk (K : PySem.W.Frag) (P : Pm) (g : W → W → Store → Res W) (r : R2) : Prop :=
  ∀ {G : Hp} {m : List Addr} {H : Hp} {st : Store} {x y : V} {a b : W} {Q : VK} {E : Exc → Hp → Prop}, RS0 K P G m H st → RepW K P G m x a → RepW K P G m y b → OutG K P G m H (RepW K P) (g a b st) Q E → r x y H Q
def UnOk (K : PySem.W.Frag) (P : Pm) (g : W → Store → Res W) (r : V → Hp → VK → Prop) : Prop :=
  ∀ {G : Hp} {m : List Addr} {H : Hp} {st : Store} {x : V} {a : W} {Q : VK} {E : Exc → Hp → Prop}, RS0 K P G m H st → RepW K P G m x a → OutG K P G m H (RepW K P) (g a st) Q E → r x H Q
def CallOk (K : PySem.W.Frag) (P : Pm) (g : List W → Store → Res W) (r : List V → Hp → VK → Prop) : Prop :=
  ∀ {G : Hp} {m : List Addr} {H : Hp} {st : Store} {xs : List V} {as : List W} {Q : VK} {E : Exc → Hp → Prop}, RS0 K P G m H st → RepWs K P G m xs as → OutG K P G m H (RepW K P) (g as st) Q E → r xs H Q
end

section
variable {X : Cx} {P : Pm} {Wx : WX} {a b c e : Expr} {es : List Expr} {fa fb fc : M W} {fs : M (List W)} {pos : Pos} {K : PySem.W.Frag}
/-! ### names, constants -/
theorem se_var (i : Nat) {x : Str} (hN : X.N[i]? = some x := by rfl) (hv : Vis X.env.scope x := by first | exact Or.inl rfl | exact Or.inr (Or.inl rfl) | exact Or.inr (Or.inr rfl)) (hd : (x == ("__debug__" : Str)) = false := by decide +kernel)
    (hcd : (x == ("__classdict__" : Str)) = false := by decide +kernel) : SE X P Wx (.Name x pos) (varM i) :=
  conv (pe_var hN hv hd hcd) fun σ H Q ⟨G, m, env, st, hE, hS, ho⟩ => by
    have ho' : OutG X.K P G m H (RepW X.K P) (match env[i]? with
      | some (some w) => .ok w st
      | _ => .stuck) Q (fun c H' => Wx (.ref (P.EC c)) none σ H') := ho
    cases q : env[i]? with
    | none => rw [q] at ho'; exact ho'.elim
    | some o =>
      cases o with
      | none => rw [q] at ho'; exact ho'.elim
      | some w =>
        rw [q] at ho'
        obtain ⟨v, hv, r⟩ := hE.get i w q
        exact ⟨v, hv, out_ok ho' hS r⟩
theorem se_con {v : V} {d : D} (h : PE X e (tC v)) (r : ∀ G, RepD X.K G v d) : SE X P Wx e (conM d) :=
  conv h fun σ H Q ⟨G, m, env, st, hE, hS, ho⟩ => out_ok (w := .d d) ho hS (r G)
theorem se_int {i : Int} {j : Nat} : SE X P Wx (.Constant (.int i) j pos) (conM (.int i)) := se_con pe_int fun _ => .int i
theorem se_bl {b : Bool} {j : Nat} : SE X P Wx (.Constant (.bool b) j pos) (conM (.bl b)) := se_con pe_bl fun _ => .bl b
theorem se_non {j : Nat} : SE X P Wx (.Constant .none j pos) (conM .non) := se_con pe_non fun _ => .non
theorem se_str {x : Str} {j : Nat} : SE X P Wx (.Constant (.str x) j pos) (conM (.str x)) := se_con pe_str fun _ => .str x
theorem se_globI {x : Str} {i : Int} {t : Tok} (hg : Gl X x) (hm : X.mg x = some (.int i t)) (hd : (x == ("__debug__" : Str)) = false := by decide +kernel) : SE X P Wx (.Name x pos) (conM (.int i)) := se_con (pe_glob (v := .int i) hg hm ⟨_, rfl⟩ hd) fun _ => .int i

/-! ### arguments -/
theorem sa_nil : SA X P Wx [] nilA := convA pa_nil fun σ H Q ⟨G, m, env, st, hE, hS, ho⟩ => ho G m H [] .refl hS .nil
theorem sa_cons (ha : SE X P Wx a fa) (hr : SA X P Wx es fs) (hs : starEach (a :: es) X.env = (false, eval a X.env) :: starEach es X.env := by rfl) : SA X P Wx (a :: es) (consA fa fs) :=
  convA (pa_cons ha hr hs) fun σ H Q ⟨G, m, env, st, hE, hS, ho⟩ =>
    goG hE hS ho fun G1 m1 H1 v w st1 x1 e1 s1 r1 o1 => goG e1 s1 o1 fun G2 m2 H2 vs ws st2 x2 e2 s2 r2 o2 =>
      o2 G2 m2 H2 (v :: vs) .refl s2 (.cons (r1.mono x2.g x2.pre) r2)

/-! ### operators -/
theorem se_bin {op : Operator} {r : R2} {g : W → W → Store → Res W} (ho : OpR X (binaryOp op) r) (hr : BinOk X.K P g r) (ha : SE X P Wx a fa) (hb : SE X P Wx b fb) : SE X P Wx (.BinOp a op b pos) (binM g fa fb) :=
  conv (pe_op ho ha hb) fun σ H Q ⟨G, m, env, st, hE, hS, ho⟩ =>
    goG hE hS ho fun G1 m1 H1 v w st1 x1 e1 s1 r1 o1 => goG e1 s1 o1 fun G2 m2 H2 v2 w2 st2 x2 e2 s2 r2 o2 => hr s2 (r1.mono x2.g x2.pre) r2 o2
theorem se_un {op : UnaryOp} {r : V → Hp → VK → Prop} {g : W → Store → Res W} (ho : UnR X (unaryOp op) r) (hr : UnOk X.K P g r) (ha : SE X P Wx a fa) : SE X P Wx (.UnaryOp op a pos) (unM g fa) :=
  conv (pe_un ho ha) fun σ H Q ⟨G, m, env, st, hE, hS, ho⟩ => goG hE hS ho fun G1 m1 H1 v w st1 x1 e1 s1 r1 o1 => hr s1 r1 o1
theorem se_cmp {op : CmpOp} {r : R2} {g : W → W → Store → Res W} (ho : OpR X (compareOp op) r) (hr : BinOk X.K P g r) (ha : SE X P Wx a fa) (hb : SE X P Wx b fb) (hm : behindInMarks op b = false := by first | exact nomark _ | rfl | with_unfolding_all rfl) : SE X P Wx (.Compare a [op] [b] pos) (binM g fa fb) :=
  conv (pe_cmpR ho ha hb hm) fun σ H Q ⟨G, m, env, st, hE, hS, ho⟩ =>
    goG hE hS ho fun G1 m1 H1 v w st1 x1 e1 s1 r1 o1 => goG e1 s1 o1 fun G2 m2 H2 v2 w2 st2 x2 e2 s2 r2 o2 => hr s2 (r1.mono x2.g x2.pre) r2 o2
theorem out_bl {α β : Type} {G : Hp} {m : List Addr} {H : Hp} {v : V} {w : W} (r1 : RepW K P G m v w) {k : Bool → Res α} {Rp : Hp → List Addr → β → α → Prop} {Q : β → Hp → Prop} {E : Exc → Hp → Prop}
    (o1 : OutG K P G m H Rp (onBl w k) Q E) : ∃ c, v = .bl c ∧ OutG K P G m H Rp (k c) Q E := by
  cases w with
  | d x =>
    cases x with
    | bl b => cases r1; exact ⟨b, rfl, o1⟩
    | _ => exact o1.elim
  | c k => exact o1.elim
  | exc => exact o1.elim
theorem out_tv {G : Hp} {m : List Addr} {H : Hp} {st : Store} {v : V} {w : W} {Q : Bool → Hp → Prop} {E : Exc → Hp → Prop} (s1 : RS0 K P G m H st) (r1 : RepW K P G m v w)
    (o1 : OutG K P G m H (fun _ _ b c => b = c) (onBl w fun b => .ok b st) Q E) : ∃ k, v = .bl k ∧ Q k H := by
  obtain ⟨c, e, o2⟩ := out_bl r1 o1
  exact ⟨c, e, o2 G m H c .refl s1 rfl⟩
theorem st_cmp {op : CmpOp} {r : R2} {g : W → W → Store → Res W} (ho : OpR X (compareOp op) r) (hr : BinOk X.K P g r) (ha : SE X P Wx a fa) (hb : SE X P Wx b fb) (hm : behindInMarks op b = false := by first | exact nomark _ | rfl | with_unfolding_all rfl) : ST X P Wx (.Compare a [op] [b] pos) (tvM (binM g fa fb)) := by
  refine convT (pt_cmpR ho ha hb hm) fun σ H Q ⟨G, m, env, st, hE, hS, ho⟩ => ?_
  have ho' : OutG X.K P G m H (fun _ _ b c => b = c) ((fa env st).bind fun x s1 => ((fb env s1).bind fun y s2 => g x y s2).bind fun x s1 => onBl x fun b => .ok b s1) Q (fun c H' => Wx (.ref (P.EC c)) none σ H') := by
    have e : tvM (binM g fa fb) env st = ((fa env st).bind fun x s1 => ((fb env s1).bind fun y s2 => g x y s2).bind fun x s1 => onBl x fun b => .ok b s1) := by
      unfold tvM binM
      cases fa env st <;> rfl
    rw [← e]; exact ho
  refine goG hE hS ho' fun G1 m1 H1 v w st1 x1 e1 s1 r1 o1 => ?_
  have o1' : OutG X.K P G1 m1 H1 (fun _ _ b c => b = c) ((fb env st1).bind fun y s2 => (g w y s2).bind fun x s1 => onBl x fun b => .ok b s1) Q (fun c H' => Wx (.ref (P.EC c)) none σ H') := by
    have e : (((fb env st1).bind fun y s2 => g w y s2).bind fun x s1 => onBl x fun b => .ok b s1) = ((fb env st1).bind fun y s2 => (g w y s2).bind fun x s1 => (onBl x fun b => (.ok b s1 : Res Bool))) := by cases fb env st1 <;> rfl
    rw [← e]; exact o1
  refine goG e1 s1 o1' fun G2 m2 H2 v2 w2 st2 x2 e2 s2 r2 o2 => ?_
  refine hr (E := fun c H' => Wx (.ref (P.EC c)) none σ H') s2 (r1.mono x2.g x2.pre) r2 ?_
  cases q : g w w2 st2 with
  | ok w3 st3 => rw [q] at o2; exact fun G3 m3 H3 v3 x3 s3 r3 => out_tv s3 r3 (OutG.shift o2 x3)
  | err c st3 => rw [q] at o2; exact o2
  | stuck => rw [q] at o2; exact o2

def rAddAll (K : PySem.W.Frag) : R2 := fun x y H Q => ((rI0 fun i j => .int (i + j)) x y H Q ∨ (∃ i j, x = .str i ∧ y = .str j ∧ i.length + j.length ≤ sizeLine ∧ Q (.str (i ++ j)) H)) ∨ rCat x y H Q ∨ rCatA K x y H Q
theorem op_addAll : OpR X (binaryOp .Add) (rAddAll X.K) := opOr (opOr op_add op_add_str) (opOr op_cat op_catA)
theorem bo_add {own : Bool} : BinOk K P (addW own) (rAddAll K) := by
  intro G m H st x y a b Q E hS ra rb ho
  unfold addW at ho
  split at ho
  · rename_i i j e1 e2
    rw [view_int hS ra e1, view_int hS rb e2]
    exact .inl (.inl ⟨i, j, rfl, rfl, out_ok ho hS (show RepD K G _ _ from .int _)⟩)
  · rename_i i j e1 e2
    rw [view_str hS ra e1, view_str hS rb e2]
    split at ho
    · exact .inl (.inr ⟨i, j, rfl, rfl, by assumption, out_ok ho hS (show RepD K G _ _ from .str _)⟩)
    · exact ho.elim
  · rename_i xs ys e1 e2
    obtain ⟨p, vs, rfl, hp, r1⟩ := view_lst hS ra e1
    obtain ⟨q, us, rfl, hq, r2⟩ := view_lst hS rb e2
    obtain ⟨hz, k⟩ := out_newL ho hS (r1.append r2)
    rw [List.length_append] at hz
    exact .inr (.inl ⟨p, q, vs, us, rfl, rfl, hp, hq, hz, k⟩)
  · rename_i xs ys e1 e2
    obtain ⟨p, vs, rfl, hp, r1⟩ := view_tup hS ra e1
    obtain ⟨q, us, rfl, hq, r2⟩ := view_tup hS rb e2
    obtain ⟨hz, k⟩ := out_newT ho hS (r1.append r2)
    rw [List.length_append] at hz
    refine .inr (.inr ⟨p, q, vs, us, rfl, rfl, hS.sqT hp, hS.sqT hq, hz, fun hv => ?_, fun _ hu => ?_, fun _ _ => k⟩)
    · subst hv
      cases r1
      exact out_sameT ho hS (.tup hq r2)
    · subst hu
      cases r2
      rw [List.append_nil] at ho
      exact out_sameT ho hS (.tup hp r1)
  · exact ho.elim
theorem se_add (own : Bool) (ha : SE X P Wx a fa) (hb : SE X P Wx b fb) : SE X P Wx (.BinOp a .Add b pos) (binM (addW own) fa fb) := se_bin op_addAll bo_add ha hb
theorem bo_sub : BinOk K P subW (rI0 fun i j => .int (i - j)) := by
  intro G m H st x y a b Q E hS ra rb ho
  unfold subW at ho
  split at ho
  · rename_i i j e1 e2
    rw [view_int hS ra e1, view_int hS rb e2]
    exact ⟨i, j, rfl, rfl, out_ok ho hS (show RepD K G _ _ from .int _)⟩
  · exact ho.elim
theorem se_sub (ha : SE X P Wx a fa) (hb : SE X P Wx b fb) : SE X P Wx (.BinOp a .Sub b pos) (binM subW fa fb) := se_bin op_sub bo_sub ha hb
theorem bo_mod : BinOk K P modW (rI (fun _ j => 0 < j) fun i j => .int (i % j)) := by
  intro G m H st x y a b Q E hS ra rb ho
  unfold modW at ho
  split at ho
  · rename_i i j e1 e2
    rw [view_int hS ra e1, view_int hS rb e2]
    split at ho
    · exact ⟨i, j, rfl, rfl, by assumption, out_ok ho hS (show RepD K G _ _ from .int _)⟩
    · exact ho.elim
  · exact ho.elim
theorem se_mod (ha : SE X P Wx a fa) (hb : SE X P Wx b fb) : SE X P Wx (.BinOp a .Mod b pos) (binM modW fa fb) := se_bin op_mod bo_mod ha hb
theorem bo_fdiv : BinOk K P fdivW (rI CDiv fun i j => .int (i / j)) := by
  intro G m H st x y a b Q E hS ra rb ho
  unfold fdivW at ho
  split at ho
  · rename_i i j e1 e2
    rw [view_int hS ra e1, view_int hS rb e2]
    split at ho
    · rename_i hk
      exact ⟨i, j, rfl, rfl, (fdvOk_iff _).mp hk, out_ok ho hS (show RepD K G _ _ from .int _)⟩
    · exact ho.elim
  · exact ho.elim
theorem se_fdiv (ha : SE X P Wx a fa) (hb : SE X P Wx b fb) : SE X P Wx (.BinOp a .FloorDiv b pos) (binM fdivW fa fb) := se_bin op_fdiv bo_fdiv ha hb
theorem bo_pow : BinOk K P powW (rI CPow fun i j => .int (i ^ j.toNat)) := by
  intro G m H st x y a b Q E hS ra rb ho
  unfold powW at ho
  split at ho
  · rename_i i j e1 e2
    rw [view_int hS ra e1, view_int hS rb e2]
    split at ho
    · rename_i hk
      exact ⟨i, j, rfl, rfl, (powOk_iff _ _).mp hk, out_ok ho hS (show RepD K G _ _ from .int _)⟩
    · exact ho.elim
  · exact ho.elim
theorem se_pow (ha : SE X P Wx a fa) (hb : SE X P Wx b fb) : SE X P Wx (.BinOp a .Pow b pos) (binM powW fa fb) := se_bin op_pow bo_pow ha hb

end
end Py

namespace Py
open PySem L2 PySem.Spec PyProof.Rows
/-! ### tuple * 1 -/
theorem tuple_mul1 (l : Addr) (items : Array Value) (n : Nat) (dd : Option Addr) (sl : Array (Option Value)) (u : Tok) :
    Meets (Builtin.«tuple.__mul__» ⟨[.ref l, .int 1 u], []⟩) (fun _ R s => s.heap.get? l = some { cls := .type "tuple", dict := dd, data := .seq items n, slots := sl } ∧ R (.ok (.ret (Value.ref l))) { s with heap := s.heap, toks := s.toks }) :=
  .of_wp fun prog w A R s h => by
    obtain ⟨hp, g, d, tk, os⟩ := s
    obtain ⟨hl, h⟩ := h
    have f1 := AutoSeq1.idx_int
    have f2 := AutoSeq1.sub_tuple_tuple
    wp_walk using wpAny_loadPart' hl
    exact ⟨_, rfl, h⟩
theorem op_rep1T {X : Cx} : OpR X (binaryOp .Mult) (fun x y H Q => ∃ l xs, x = .ref l ∧ y = .int 1 ∧ SqT X.K H l xs ∧ Q (.ref l) H) := by
  intro pins s σ H x y v u Q I rx ry h
  obtain ⟨l, xs, rfl, rfl, hT, q⟩ := h
  cases rx
  obtain ⟨t, rfl⟩ := ry
  obtain ⟨its, r, ⟨⟨cls, dd, data, sl⟩, ho, hc, n, hd⟩, hs⟩ := I.tuple hT
  simp only at hc hd
  subst hc hd
  refine wpAny_binaryOp_repeat_ref (T := "tuple") (U := "int") (by decide) ⟨_, ho, rfl⟩ (fun s' => typeIs_int s' 1 t) noFill_tuple_mul F.fills_int_mul F.slot_int_rmul repeat_tuple F.slot_int_index.lookup
    (call_meets F.slot_int_rmul (typeIs_int s 1 t) F.entry_int_rmul (F.args_int_rmul_2 _ _) (int_rmul_tuple 1 t l its.toArray n dd sl)
      ⟨ho, rfl, ⟨_, ho, rfl⟩, call_meets F.slot_tuple_mul ⟨_, ho, rfl⟩ F.entry_tuple_mul (F.args_tuple_mul_2 _ _) (tuple_mul1 l its.toArray n dd sl t) ⟨ho, ?_⟩⟩)
  exact ⟨.ref l, H, I.tok _, rfl, q⟩
section
variable {X : Cx} {P : Pm} {Wx : WX} {a b c e : Expr} {es : List Expr} {fa fb fc : M W} {fs : M (List W)} {pos : Pos} {K : PySem.W.Frag}
def rMulAll (K : PySem.W.Frag) : R2 := fun x y H Q => ((rI CMul fun i j => .int (i * j)) x y H Q ∨ rRep x y H Q) ∨ (rRepT K x y H Q ∨ ∃ l xs, x = .ref l ∧ y = .int 1 ∧ SqT K H l xs ∧ Q (.ref l) H)
theorem op_mulAll : OpR X (binaryOp .Mult) (rMulAll X.K) := opOr (opOr op_mul op_rep) (opOr op_repT op_rep1T)
theorem bo_mul {own : Bool} : BinOk K P (mulW own) (rMulAll K) := by
  intro G m H st x y a b Q E hS ra rb ho
  unfold mulW at ho
  split at ho
  · rename_i i j e1 e2
    rw [view_int hS ra e1, view_int hS rb e2]
    split at ho
    · rename_i hk
      exact .inl (.inl ⟨i, j, rfl, rfl, (show (-(2 ^ 64) < i ∧ i < 2 ^ 64) ∨ (-(2 ^ 64) < j ∧ j < 2 ^ 64) from (mulOk_iff i j).mp hk), out_ok ho hS (show RepD K G _ _ from .int _)⟩)
    · exact ho.elim
  · rename_i xs k e1 e2
    obtain ⟨p, vs, rfl, hp, r1⟩ := view_lst hS ra e1
    rw [view_int hS rb e2]
    split at ho
    · rename_i hk
      replace hk := (repOk_iff _).mp hk
      obtain ⟨hz, q⟩ := out_newL ho hS (r1.reps k.toNat)
      refine .inl (.inr ⟨p, k, vs, rfl, rfl, hp, hk.1, hk.2, ?_, q⟩)
      rw [PyProof.Rows.lm_len_rep_flat] at hz
      rw [Nat.mul_comm]; exact hz
    · exact ho.elim
  · rename_i xs k e1 e2
    obtain ⟨p, vs, rfl, hp, r1⟩ := view_tup hS ra e1
    rw [view_int hS rb e2]
    split at ho
    · rename_i hk
      obtain ⟨k12, k3⟩ := hk
      obtain ⟨k1, k2⟩ := (tupOk_iff _).mp k12
      have hl := r1.length
      by_cases k0 : k = 1
      · subst k0
        refine .inr (.inr ⟨p, vs, rfl, rfl, hS.sqT hp, out_sameT ho hS ?_⟩)
        have e : reps 1 xs = xs := by simp [reps]
        rw [e]
        exact .tup hp r1
      · obtain ⟨hz, q⟩ := out_newT ho hS (r1.reps k.toNat)
        refine .inr (.inl ⟨p, k, vs, rfl, rfl, hS.sqT hp, ?_, by omega, k2, by omega, q⟩)
        intro z
        rw [z] at hl
        rw [k3] at hl
        cases hl
    · exact ho.elim
  · exact ho.elim
theorem se_mul (own : Bool) (ha : SE X P Wx a fa) (hb : SE X P Wx b fb) : SE X P Wx (.BinOp a .Mult b pos) (binM (mulW own) fa fb) := se_bin op_mulAll bo_mul ha hb
theorem uo_neg : UnOk K P negW (rU fun i => .int (-i)) := by
  intro G m H st x a Q E hS ra ho
  unfold negW at ho
  split at ho
  · rename_i i e1
    rw [view_int hS ra e1]
    exact ⟨i, rfl, out_ok ho hS (show RepD K G _ _ from .int _)⟩
  · exact ho.elim
theorem se_neg (ha : SE X P Wx a fa) : SE X P Wx (.UnaryOp .USub a pos) (unM negW fa) := se_un un_neg uo_neg ha

/-! ### comparisons of ints -/
theorem bo_cmp {p : Int → Int → Bool} : BinOk K P (cmpW p) (rI0 fun i j => .bl (p i j)) := by
  intro G m H st x y a b Q E hS ra rb ho
  unfold cmpW at ho
  split at ho
  · rename_i i j e1 e2
    rw [view_int hS ra e1, view_int hS rb e2]
    exact ⟨i, j, rfl, rfl, out_ok ho hS (show RepD K G _ _ from .bl _)⟩
  · exact ho.elim
abbrev ltW := cmpW fun i j => decide (i < j)
abbrev leW := cmpW fun i j => decide (i ≤ j)
abbrev gtW := cmpW fun i j => decide (j < i)
/-! ### == -/
mutual
theorem dp_of {G H : Hp} (hg : ∀ a o, G a = some o → H a = some o) : ∀ {v : V} {d : D}, RepD K G v d → d.fine = true → Dp K H v (toPy d)
  | _, _, .non, _ => .non
  | _, _, .bl b, _ => .bl b
  | _, _, .int b, _ => .int b
  | _, _, .str b, _ => .str b
  | _, _, .tup h l, f => .tup (Evl.ex_t hg h) (dp_ofL hg l f)
  | _, _, .lst h l, f => .lst (SqL.of (hg _ _ h)) (dp_ofL hg l f)
  | _, _, .dct _ _, f => by cases f
  | _, _, .scr _, f => by cases f
theorem dp_ofL {G H : Hp} (hg : ∀ a o, G a = some o → H a = some o) : ∀ {v : List V} {d : List D}, RepL K G v d → fineL d = true → DpAll K H v (toPyL d)
  | _, _, .nil, _ => .nil
  | _, _, .cons r l, f => by
    have f' := f
    simp only [fineL, Bool.and_eq_true] at f'
    exact .cons (dp_of hg r f'.1) (dp_ofL hg l f'.2)
end
mutual
theorem fine_lay : ∀ d : D, d.fine = true → (toPy d).canLay0 = true ∧ (toPy d).depth = d.dep
  | .non, _ => ⟨rfl, rfl⟩
  | .bl _, _ => ⟨rfl, rfl⟩
  | .int _, _ => ⟨rfl, rfl⟩
  | .str s, f => ⟨f, rfl⟩
  | .tup xs, f => by
    obtain ⟨h1, h2⟩ := fine_layL xs f
    exact ⟨h1, by simp only [toPy, PyData.depth, D.dep, h2]⟩
  | .lst xs, f => by
    obtain ⟨h1, h2⟩ := fine_layL xs f
    exact ⟨h1, by simp only [toPy, PyData.depth, D.dep, h2]⟩
  | .dct _, f => by cases f
  | .scr _, f => by cases f
theorem fine_layL : ∀ d : List D, fineL d = true → PyData.canLayAll0 (toPyL d) = true ∧ PyData.depthAll (toPyL d) = depL d
  | [], _ => ⟨rfl, rfl⟩
  | x :: xs, f => by
    simp only [fineL, Bool.and_eq_true] at f
    obtain ⟨h1, h2⟩ := fine_lay x f.1
    obtain ⟨h3, h4⟩ := fine_layL xs f.2
    exact ⟨by simp only [toPyL, PyData.canLayAll0, h1, h3, Bool.and_self], by simp only [toPyL, PyData.depthAll, depL, h2, h4]⟩
end
theorem shaped_of {d : D} (f : d.fine = true) (h : d.dep ≤ 64) : SeqAt.shaped (toPy d) = true := by
  obtain ⟨h1, h2⟩ := fine_lay d f
  unfold SeqAt.shaped
  rw [h1, h2, decide_eq_true h]
  rfl
mutual
theorem eqv_py : ∀ d e : D, d.fine = true → e.fine = true → PyData.eqv (toPy d) (toPy e) = d.eqv e
  | .tup xs, .tup ys, f, g => by simp only [toPy, PyData.eqv, D.eqv]; exact eqv_pyL xs ys f g
  | .lst xs, .lst ys, f, g => by simp only [toPy, PyData.eqv, D.eqv]; exact eqv_pyL xs ys f g
  | .dct _, _, f, _ => by cases f
  | .scr _, _, f, _ => by cases f
  | .non, e, _, g => by cases e <;> first | (cases g; done) | rfl
  | .bl _, e, _, g => by cases e <;> first | (cases g; done) | rfl
  | .int _, e, _, g => by cases e <;> first | (cases g; done) | rfl
  | .str _, e, _, g => by cases e <;> first | (cases g; done) | rfl
  | .tup _, .non, _, _ => rfl
  | .tup _, .bl _, _, _ => rfl
  | .tup _, .int _, _, _ => rfl
  | .tup _, .str _, _, _ => rfl
  | .tup _, .lst _, _, _ => rfl
  | .tup _, .dct _, _, g => by cases g
  | .tup _, .scr _, _, g => by cases g
  | .lst _, .non, _, _ => rfl
  | .lst _, .bl _, _, _ => rfl
  | .lst _, .int _, _, _ => rfl
  | .lst _, .str _, _, _ => rfl
  | .lst _, .tup _, _, _ => rfl
  | .lst _, .dct _, _, g => by cases g
  | .lst _, .scr _, _, g => by cases g
theorem eqv_pyL : ∀ d e : List D, fineL d = true → fineL e = true → PyData.eqvAll (toPyL d) (toPyL e) = eqvL d e
  | [], [], _, _ => rfl
  | [], _ :: _, _, _ => rfl
  | _ :: _, [], _, _ => rfl
  | x :: xs, y :: ys, f, g => by
    simp only [fineL, Bool.and_eq_true] at f g
    simp only [toPyL, PyData.eqvAll, eqvL, eqv_py x y f.1 g.1, eqv_pyL xs ys f.2 g.2]
end
end
end Py

namespace Py
open PySem L2 PySem.Spec PyProof.Rows
section
variable {X : Cx} {P : Pm} {Wx : WX} {a b c e : Expr} {es : List Expr} {fa fb fc : M W} {fs : M (List W)} {pos : Pos} {K : PySem.W.Frag}
/-! ### dicts compared -/
theorem hits_of {pins : List (Addr × Obj)} {σ : L2.St} {H : Hp} {s : Shared} {A : Around} (I : Inv X pins σ H s) {kb : List (Key × V)} {vb : List (Key × Value)} {kvb : List (Str × D)} (rb : RepK X.K H kb kvb) (Rb : KV kb vb)
    (fb : (kvb.all fun p => p.2.fine && decide (p.2.dep ≤ 50)) = true) (hu : A.units + 60 < cLine) :
    ∀ {ka : List (Key × V)} {kva : List (Str × D)}, RepK X.K H ka kva → ∀ {va : List (Key × Value)}, KV ka va → (kva.all fun p => p.2.fine && decide (p.2.dep ≤ 50)) = true →
      PySem.W.KeqHits A s vb va (kva.all (hitD kvb))
  | _, _, .nil, _, .nil, _ => .nil
  | _, _, .cons (k := k) (v := v) (d := d) (kvs := kvs) r l, _, .cons h t, f => by
    rename_i q qs
    obtain ⟨h1, h2⟩ := h
    obtain ⟨k', u⟩ := q
    have h1' : (Sum.inr k : Key) = k' := h1
    subst h1'
    rw [List.all_cons, Bool.and_eq_true, Bool.and_eq_true] at f
    have ih := hits_of I rb Rb fb hu l t f.2
    rw [List.all_cons]
    rcases rb.look (s := k) with ⟨e1, e2⟩ | ⟨d', v', e1, e2, r'⟩
    · have hn : valueAt vb (Sum.inr k) = none := RelO.none_of (by rw [← e2]; exact Rb.val _)
      have eh : hitD kvb (k, d) = false := by unfold hitD; simp only [e1]
      rw [eh, Bool.false_and]
      exact .miss hn
    · obtain ⟨y, hy, ry⟩ := RelO.some_of (by rw [← e2]; exact Rb.val (Sum.inr k))
      have hd : d'.fine = true ∧ d'.dep ≤ 50 := by
        have hm : (k, d') ∈ kvb := by
          clear Rb fb rb hy e2 ih
          induction kvb with
          | nil => cases e1
          | cons p ps ih =>
            have e1' : (if p.1 = k then some p.2 else look k ps) = some d' := e1
            by_cases hk : p.1 = k
            · rw [if_pos hk] at e1'
              cases e1'
              rw [← hk]
              exact List.mem_cons_self
            · rw [if_neg hk] at e1'
              exact List.mem_cons_of_mem _ (ih e1')
        have z := List.all_eq_true.mp fb _ hm
        simpa using z
      have f1 : d.fine = true ∧ d.dep ≤ 50 := by simpa using f.1
      obtain ⟨as, q1⟩ := Dp.reads I _ _ _ (dp_of (fun _ _ z => z) r f1.1) h2
      obtain ⟨bs, q2⟩ := Dp.reads I _ _ _ (dp_of (fun _ _ z => z) r' hd.1) ry
      obtain ⟨l1, p1⟩ := fine_lay d f1.1
      obtain ⟨l2, p2⟩ := fine_lay d' hd.1
      have eq := SeqAt.eqAt_reads (toPy d) (toPy d') A s u y as bs q1 q2 l1 l2 (by rw [p1, p2]; omega)
      rw [eqv_py d d' f1.1 hd.1] at eq
      have eh : hitD kvb (k, d) = d.eqv d' := by unfold hitD; simp only [e1]
      rw [eh]
      exact .hit hy eq ih
def rEqAll (K : PySem.W.Frag) (neg : Bool) : R2 := fun x y H Q => (∃ d e, Dp K H x d ∧ Dp K H y e ∧ SeqAt.shaped d = true ∧ SeqAt.shaped e = true ∧ Q (.bl (if neg then !PyData.eqv d e else PyData.eqv d e)) H) ∨
  ∃ a b ka kb kva kvb, x = .ref a ∧ y = .ref b ∧ H a = some (.dK ka) ∧ H b = some (.dK kb) ∧ RepK K H ka kva ∧ RepK K H kb kvb ∧ (kva.all fun p => p.2.fine && decide (p.2.dep ≤ 50)) = true ∧ (kvb.all fun p => p.2.fine && decide (p.2.dep ≤ 50)) = true ∧
    Q (.bl (if neg then !dctEqv kva kvb else dctEqv kva kvb)) H
theorem op_eqAll (hu : X.A.units + 64 < cLine) : OpR X (compareOp .Eq) (rEqAll X.K false) := by
  intro pins s σ H x y v u Q I rx ry h
  rcases h with h | ⟨a, b, ka, kb, kva, kvb, rfl, rfl, ea, eb, ra, rb, f1, f2, q⟩
  · exact op_eqD hu pins s σ H x y v u Q I rx ry h
  · obtain rfl : v = Value.ref a := rx
    obtain rfl : u = Value.ref b := ry
    obtain ⟨_, ya, va, Ra, da⟩ := (show ObjOk X.prog X.w H s.heap a (.dK ka) from I.hok a _ ea)
    obtain ⟨_, yb, vb, Rb, db⟩ := (show ObjOk X.prog X.w H s.heap b (.dK kb) from I.hok b _ eb)
    have l1 : va.length = kva.length := Ra.length.symm.trans ra.length
    have l2 : vb.length = kvb.length := Rb.length.symm.trans rb.length
    exact PySem.W.keq_eq (knd := mixKind X.prog X.w) ya yb da db (by omega) (fun _ => hits_of I rb Rb f2 (by show X.A.units + 1 + 60 < cLine; omega) ra Ra f1) (fin_bl I q (by unfold dctEqv; rw [l1, l2]; rfl))
theorem op_neAll (hu : X.A.units + 64 < cLine) : OpR X (compareOp .NotEq) (rEqAll X.K true) := by
  intro pins s σ H x y v u Q I rx ry h
  rcases h with h | ⟨a, b, ka, kb, kva, kvb, rfl, rfl, ea, eb, ra, rb, f1, f2, q⟩
  · exact op_neD hu pins s σ H x y v u Q I rx ry h
  · obtain rfl : v = Value.ref a := rx
    obtain rfl : u = Value.ref b := ry
    obtain ⟨_, ya, va, Ra, da⟩ := (show ObjOk X.prog X.w H s.heap a (.dK ka) from I.hok a _ ea)
    obtain ⟨_, yb, vb, Rb, db⟩ := (show ObjOk X.prog X.w H s.heap b (.dK kb) from I.hok b _ eb)
    have l1 : va.length = kva.length := Ra.length.symm.trans ra.length
    have l2 : vb.length = kvb.length := Rb.length.symm.trans rb.length
    exact PySem.W.keq_ne (knd := mixKind X.prog X.w) ya yb da db (by omega) (fun _ => hits_of I rb Rb f2 (by show X.A.units + 1 + 60 < cLine; omega) ra Ra f1) (fin_bl I q (by unfold dctEqv; rw [l1, l2]; rfl))
theorem bo_eq {neg : Bool} : BinOk K P (eqW neg) (rEqAll K neg) := by
  intro G m H st x y a b Q E hS ra rb ho
  unfold eqW at ho
  split at ho
  · rename_i d e e1 e2
    split at ho
    · rename_i r hr
      unfold eqD at hr
      split at hr
      · rename_i kva kvb
        split at hr
        · rename_i hf
          rw [Bool.and_eq_true] at hf
          obtain ⟨p, ka, rfl, hp, r1⟩ := view_dct hS ra e1
          obtain ⟨q, kb, rfl, hq, r2⟩ := view_dct hS rb e2
          cases hr
          exact .inr ⟨p, q, ka, kb, kva, kvb, rfl, rfl, hp, hq, r1.mono hS.sub, r2.mono hS.sub, hf.1, hf.2, out_ok ho hS (show RepD K G _ _ from .bl _)⟩
        · cases hr
      · split at hr
        · rename_i hf
          simp only [Bool.and_eq_true, decide_eq_true_eq] at hf
          obtain ⟨⟨⟨f1, f2⟩, f3⟩, f4⟩ := hf
          obtain ⟨G1, _, h1, r1⟩ := view hS ra e1
          obtain ⟨G2, _, h2, r2⟩ := view hS rb e2
          cases hr
          refine .inl ⟨toPy d, toPy e, dp_of h1 r1 f1, dp_of h2 r2 f3, shaped_of f1 (by omega), shaped_of f3 (by omega), ?_⟩
          rw [eqv_py d e f1 f3]
          exact out_ok ho hS (show RepD K G _ _ from .bl _)
        · cases hr
    · exact ho.elim
  · exact ho.elim
theorem se_eq (hu : X.A.units + 64 < cLine) (ha : SE X P Wx a fa) (hb : SE X P Wx b fb) : SE X P Wx (.Compare a [.Eq] [b] pos) (binM (eqW false) fa fb) := se_cmp (op_eqAll hu) bo_eq ha hb
theorem st_eq (hu : X.A.units + 64 < cLine) (ha : SE X P Wx a fa) (hb : SE X P Wx b fb) : ST X P Wx (.Compare a [.Eq] [b] pos) (tvM (binM (eqW false) fa fb)) := st_cmp (op_eqAll hu) bo_eq ha hb
theorem st_ne (hu : X.A.units + 64 < cLine) (ha : SE X P Wx a fa) (hb : SE X P Wx b fb) : ST X P Wx (.Compare a [.NotEq] [b] pos) (tvM (binM (eqW true) fa fb)) := st_cmp (op_neAll hu) bo_eq ha hb

/-! ### is -/
theorem repW_non {G : Hp} {m : List Addr} {x : V} {a : W} (r : RepW K P G m x a) : decide (x = .non) = a.isNon := by
  cases a with
  | d d => cases d <;> cases r <;> rfl
  | c k => obtain ⟨p, _, rfl⟩ := r; rfl
  | exc => obtain ⟨p, _, rfl⟩ := r; rfl
theorem bo_isN : BinOk K P (isNonB false) (fun x y H Q => y = .non ∧ Q (.bl (decide (x = .non))) H) := by
  intro G m H st x y a b Q E hS ra rb ho
  unfold isNonB at ho
  split at ho
  · cases rb
    refine ⟨rfl, ?_⟩
    rw [repW_non ra]
    exact out_ok ho hS (show RepD K G _ _ from .bl _)
  · exact ho.elim
theorem bo_notN : BinOk K P (isNonB true) (fun x y H Q => y = .non ∧ Q (.bl (!decide (x = .non))) H) := by
  intro G m H st x y a b Q E hS ra rb ho
  unfold isNonB at ho
  split at ho
  · cases rb
    refine ⟨rfl, ?_⟩
    rw [repW_non ra]
    exact out_ok ho hS (show RepD K G _ _ from .bl _)
  · exact ho.elim
theorem bo_notB : BinOk K P (isBlW true) (fun x y H Q => ∃ a b, x = .bl a ∧ y = .bl b ∧ Q (.bl (!decide (a = b))) H) := by
  intro G m H st x y a b Q E hS ra rb ho
  unfold isBlW at ho
  split at ho
  · cases ra; cases rb
    exact ⟨_, _, rfl, rfl, out_ok ho hS (show RepD K G _ _ from .bl _)⟩
  · exact ho.elim

/-! ### in -/
def rInAll (K : PySem.W.Frag) (neg : Bool) : R2 := fun x y H Q => rIn K neg x y H Q ∨ ∃ a o, y = .ref a ∧ DGet H a x o ∧ Q (.bl (if neg then !o.isSome else o.isSome)) H
theorem op_inAll (hu : X.A.units + 1 < cLine) : OpR X (compareOp .In) (rInAll X.K false) := by
  intro pins s σ H x y v u Q I rx ry h
  rcases h with h | ⟨a, o, rfl, g, q⟩
  · exact op_in_seq pins s σ H x y v u Q I rx ry h
  · obtain rfl : u = Value.ref a := ry
    exact d_in hu I g rx fun s3 I3 => ⟨.bl o.isSome, H, I3, rfl, q⟩
theorem op_notInAll (hu : X.A.units + 1 < cLine) : OpR X (compareOp .NotIn) (rInAll X.K true) := by
  intro pins s σ H x y v u Q I rx ry h
  rcases h with h | ⟨a, o, rfl, g, q⟩
  · exact op_notIn_seq pins s σ H x y v u Q I rx ry h
  · obtain rfl : u = Value.ref a := ry
    exact d_notIn hu I g rx fun s3 I3 => ⟨.bl (!o.isSome), H, I3, rfl, q⟩
theorem flat_strs {G : Hp} {k : Str} : ∀ {vs : List V} {ds : List D}, RepL K G vs ds → ds.all isStr = true → vs.all flatV = true ∧ inV (.str k) vs = ds.any fun z => z.eqv (.str k)
  | _, _, .nil, _ => ⟨rfl, rfl⟩
  | _, _, .cons r l, f => by
    rw [List.all_cons, Bool.and_eq_true] at f
    obtain ⟨h1, h2⟩ := flat_strs (k := k) l f.2
    cases r with
    | str x =>
      refine ⟨by rw [List.all_cons, h1]; rfl, ?_⟩
      unfold inV at h2 ⊢
      rw [List.any_cons, List.any_cons, h2]
      rfl
    | _ => exact absurd f.1 Bool.false_ne_true
theorem bo_in {neg : Bool} : BinOk K P (inW neg) (rInAll K neg) := by
  intro G m H st x y a b Q E hS ra rb ho
  unfold inW at ho
  split at ho
  · rename_i k kvs e1 e2
    rw [view_str hS ra e1]
    obtain ⟨p, ks, rfl, hp, r1⟩ := view_dct hS rb e2
    refine .inr ⟨p, _, rfl, .inl ⟨ks, .inr k, .inl hp, rfl, rfl⟩, ?_⟩
    rw [r1.isSome]
    exact out_ok ho hS (show RepD K G _ _ from .bl _)
  · rename_i k ys e1 e2
    rw [view_str hS ra e1]
    obtain ⟨p, vs, rfl, hp, r1⟩ := view_lst hS rb e2
    split at ho
    · rename_i hf
      obtain ⟨h1, h2⟩ := flat_strs (k := k) r1 hf
      refine .inl ⟨p, vs, rfl, .inl (SqL.of hp), rfl, h1, ?_⟩
      rw [h2]
      exact out_ok ho hS (show RepD K G _ _ from .bl _)
    · exact ho.elim
  · rename_i k ys e1 e2
    rw [view_str hS ra e1]
    obtain ⟨p, vs, rfl, hp, r1⟩ := view_tup hS rb e2
    split at ho
    · rename_i hf
      obtain ⟨h1, h2⟩ := flat_strs (k := k) r1 hf
      refine .inl ⟨p, vs, rfl, .inr (hS.sqT hp), rfl, h1, ?_⟩
      rw [h2]
      exact out_ok ho hS (show RepD K G _ _ from .bl _)
    · exact ho.elim
  · exact ho.elim
theorem st_in (hu : X.A.units + 1 < cLine) (ha : SE X P Wx a fa) (hb : SE X P Wx b fb) (hm : behindInMarks .In b = false := by first | rfl | with_unfolding_all rfl) : ST X P Wx (.Compare a [.In] [b] pos) (tvM (binM (inW false) fa fb)) := st_cmp (op_inAll hu) bo_in ha hb hm
theorem st_notIn (hu : X.A.units + 1 < cLine) (ha : SE X P Wx a fa) (hb : SE X P Wx b fb) (hm : behindInMarks .NotIn b = false := by first | rfl | with_unfolding_all rfl) : ST X P Wx (.Compare a [.NotIn] [b] pos) (tvM (binM (inW true) fa fb)) := st_cmp (op_notInAll hu) bo_in ha hb hm

/-! ### subscripts -/
theorem ix_dict (hu : X.A.units + 1 < cLine) : IxR X (fun x y H Q => ∃ a v, x = .ref a ∧ DGet H a y (some v) ∧ Q v H) := by
  intro value slice pins s σ H x y v u Q I rx ry h hs
  obtain ⟨a, r, rfl, g, q⟩ := h
  obtain rfl : v = Value.ref a := rx
  exact tail_any (dict_typeIs I g) PySem.F.slot_dict_getitem.lookup (d_getItem hu I g ry fun w' s3 I3 rw' => ⟨r, H, I3, rw', q⟩) hs
def rIxAll (K : PySem.W.Frag) : R2 := fun x y H Q => rIx K x y H Q ∨ ∃ a v, x = .ref a ∧ DGet H a y (some v) ∧ Q v H
theorem atI_rep {G : Hp} {vs : List V} {ds : List D} {i : Int} {d : D} (r : RepL K G vs ds) (e : atI ds i = some d) : ∃ v, atI vs i = some v ∧ RepD K G v d := by
  unfold atI at e ⊢
  rw [r.length]
  cases q : ixN ds.length i with
  | none => rw [q] at e; cases e
  | some j =>
    rw [q] at e
    exact r.get e
theorem atI_ints {ns : List Int} {i v : Int} (e : atI ns i = some v) : atI (ns.map V.int) i = some (.int v) := by
  unfold atI at e ⊢
  rw [List.length_map]
  cases q : ixN ns.length i with
  | none => rw [q] at e; cases e
  | some j =>
    rw [q] at e
    have e' : ns[j]? = some v := e
    show (ns.map V.int)[j]? = some (.int v)
    rw [List.getElem?_map, e']
    rfl
theorem bo_ix : BinOk K P ixW (rIxAll K) := by
  intro G m H st x y a b Q E hS ra rb ho
  unfold ixW at ho
  split at ho
  · rename_i xs i e1 e2
    rw [view_int hS rb e2]
    obtain ⟨p, vs, rfl, hp, r1⟩ := view_lst hS ra e1
    split at ho
    · rename_i d hd
      obtain ⟨v, hv, rv⟩ := atI_rep r1 hd
      exact .inl (.inl ⟨p, vs, i, v, rfl, rfl, SqL.of hp, hv, out_ok (w := .d d) ho hS rv⟩)
    · exact ho.elim
  · rename_i xs i e1 e2
    rw [view_int hS rb e2]
    obtain ⟨p, vs, rfl, hp, r1⟩ := view_tup hS ra e1
    split at ho
    · rename_i d hd
      obtain ⟨v, hv, rv⟩ := atI_rep r1 hd
      exact .inl (.inr (.inl ⟨p, vs, i, v, rfl, rfl, hS.sqT hp, hv, out_ok (w := .d d) ho hS rv⟩))
    · exact ho.elim
  · rename_i ns i e1 e2
    rw [view_int hS rb e2]
    obtain ⟨p, rfl, hp⟩ := view_scr hS ra e1
    split at ho
    · rename_i d hd
      exact .inl (.inl ⟨p, _, i, _, rfl, rfl, hS.sqL hp, atI_ints hd, out_ok ho hS (show RepD K G _ _ from .int _)⟩)
    · exact ho.elim
  · rename_i kvs k e1 e2
    rw [view_str hS rb e2]
    obtain ⟨p, ks, rfl, hp, r1⟩ := view_dct hS ra e1
    split at ho
    · rename_i d hd
      obtain ⟨v, hv, rv⟩ := r1.look_some hd
      exact .inr ⟨p, v, rfl, .inl ⟨ks, .inr k, .inl hp, rfl, hv.symm⟩, out_ok (w := .d d) ho hS rv⟩
    · exact ho.elim
  · rename_i z i e1 e2
    rw [view_int hS rb e2, view_str hS ra e1]
    split at ho
    · split at ho
      · rename_i hz _ c hc
        exact .inl (.inr (.inr ⟨z, i, c, rfl, rfl, hz, hc, out_ok ho hS (show RepD K G _ _ from .str _)⟩))
      · exact ho.elim
    · exact ho.elim
  · exact ho.elim
theorem se_ix (hu : X.A.units + 1 < cLine) (ha : SE X P Wx a fa) (hb : SE X P Wx b fb) (hs : PlainIx b := by exact fun _ _ => rfl) : SE X P Wx (.Subscript a b pos) (binM ixW fa fb) :=
  conv (pe_ix (ix_seq.or (ix_dict hu)) ha hb hs) fun σ H Q ⟨G, m, env, st, hE, hS, ho⟩ =>
    goG hE hS ho fun G1 m1 H1 v w st1 x1 e1 s1 r1 o1 => goG e1 s1 o1 fun G2 m2 H2 v2 w2 st2 x2 e2 s2 r2 o2 => bo_ix s2 (r1.mono x2.g x2.pre) r2 o2
/-- a table of the text: its entries stand in the written part -/
def TabOk (K : PySem.W.Frag) (w : World) (t : Addr) (T : List (Str × D)) : Prop := ∀ (G : Hp) (k : Str) (d : D), look k T = some d → ∃ v, KDct K w t k v ∧ RepD K G v d
theorem se_tab {x : Str} {t : Addr} {p : Pos} {T : List (Str × D)} (hg : Gl X x) (hm : X.mg x = some (.ref t)) (hT : TabOk X.K X.w t T) (hb : SE X P Wx b fb) (hs : PlainIx b := by exact fun _ _ => rfl) (hd : (x == ("__debug__" : Str)) = false := by decide +kernel) :
    SE X P Wx (.Subscript (.Name x p) b pos) (unM (tabW T) fb) :=
  conv (pe_ix (r := rIxD X.K X.w) ix_kdict (pe_glob (v := .ref t) hg hm rfl hd) hb hs) fun σ H Q ⟨G, m, env, st, hE, hS, ho⟩ =>
    goG hE hS ho fun G1 m1 H1 v w st1 x1 e1 s1 r1 o1 => by
      unfold tabW at o1
      split at o1
      · rename_i k e2
        rw [view_str s1 r1 e2]
        split at o1
        · rename_i d hd'
          obtain ⟨v', hv, rv⟩ := hT G1 k d hd'
          exact ⟨t, k, v', rfl, rfl, hv, out_ok (w := .d d) o1 s1 rv⟩
        · exact o1.elim
      · exact o1.elim

/-! ### slices -/
theorem so_none : SO X P Wx none noneO := convO po_none fun σ H Q ⟨G, m, env, st, hE, hS, ho⟩ => ho G m H none .refl hS rfl
theorem so_some (ha : SE X P Wx a fa) : SO X P Wx (some a) (someO fa) := convO (po_some ha) fun σ H Q ⟨G, m, env, st, hE, hS, ho⟩ =>
  goG hE hS ho fun G1 m1 H1 v w st1 x1 e1 s1 r1 o1 => by
    split at o1
    · rename_i i e2
      exact ⟨i, view_int s1 r1 e2, o1 G1 m1 H1 (some i) .refl s1 rfl⟩
    · exact o1.elim
def rSlAll (K : PySem.W.Frag) : V → Option Int → Option Int → Hp → VK → Prop := fun x lo hi H Q => rSlL K x lo hi H Q ∨ (rSlA K x lo hi H Q ∨ rSlS x lo hi H Q)
theorem cut_map {α β : Type} (f : α → β) (xs : List α) (lo hi : Option Int) : Py.cut (xs.map f) lo hi = (Py.cut xs lo hi).map f := by
  unfold Py.cut
  rw [List.length_map, List.map_take, List.map_drop]
theorem cutV_eq (xs : List V) (lo hi : Option Int) : cutV xs lo hi = Py.cut xs lo hi := rfl
theorem cut_whole {α : Type} (xs : List α) {lo hi : Option Int} (h : HT.sIx xs.length 0 lo = 0 ∧ HT.sIx xs.length xs.length hi = xs.length) : Py.cut xs lo hi = xs := by
  unfold Py.cut
  rw [h.1, h.2]
  simp
theorem uo_sl {own : Bool} {lo hi : Option Int} : UnOk K P (fun x st => slW own x lo hi st) (fun x H Q => rSlAll K x lo hi H Q) := by
  intro G m H st x a Q E hS ra ho
  simp only [slW] at ho
  split at ho
  · rename_i xs e1
    obtain ⟨p, vs, rfl, hp, r1⟩ := view_lst hS ra e1
    obtain ⟨hz, q⟩ := out_newL ho hS (r1.cut lo hi)
    exact .inl ⟨p, vs, rfl, SqL.of hp, q⟩
  · rename_i xs e1
    obtain ⟨p, vs, rfl, hp, r1⟩ := view_tup hS ra e1
    obtain ⟨hz, q⟩ := out_newT ho hS (r1.cut lo hi)
    refine .inr (.inl ⟨p, vs, rfl, hS.sqT hp, fun hw => ?_, fun _ => q⟩)
    rw [r1.length] at hw
    rw [cut_whole xs hw] at ho
    exact out_sameT ho hS (.tup hp r1)
  · rename_i ns e1
    obtain ⟨p, rfl, hp⟩ := view_scr hS ra e1
    have rl : RepL K G (cutV (ns.map V.int) lo hi) ((Py.cut ns lo hi).map D.int) := by
      rw [cutV_eq, cut_map]
      exact RepL.ints _
    obtain ⟨hz, q⟩ := out_newL ho hS rl
    exact .inl ⟨p, _, rfl, hS.sqL hp, q⟩
  · rename_i z e1
    rw [view_str hS ra e1]
    split at ho
    · exact .inr (.inr ⟨z, rfl, by assumption, out_ok ho hS (show RepD K G _ _ from .str _)⟩)
    · exact ho.elim
  · exact ho.elim
theorem se_slice (own : Bool) {lo hi : Option Expr} {flo fhi : M (Option Int)} {p2 : Pos} (ha : SE X P Wx a fa) (hl : SO X P Wx lo flo) (hh : SO X P Wx hi fhi) : SE X P Wx (.Subscript a (.Slice lo hi none p2) pos) (slM own fa flo fhi) :=
  conv (pe_slice (r := rSlAll X.K) (sl_list.or (sl_tupA.or sl_str)) ha hl hh) fun σ H Q ⟨G, m, env, st, hE, hS, ho⟩ =>
    goG hE hS ho fun G1 m1 H1 v w st1 x1 e1 s1 r1 o1 => goG e1 s1 o1 fun G2 m2 H2 l l' st2 x2 e2 s2 r2 o2 => goG e2 s2 o2 fun G3 m3 H3 h h' st3 x3 e3 s3 r3 o3 => by
      have r2' : l = l' := r2
      have r3' : h = h' := r3
      subst r2' r3'
      exact uo_sl s3 ((r1.mono x2.g x2.pre).mono x3.g x3.pre) o3
end
end Py

namespace Py
open PySem L2 PySem.Spec PyProof.Rows
theorem bt_list : bootBuiltins "list" = some (.type "list") := by decide +kernel
theorem bt_tuple : bootBuiltins "tuple" = some (.type "tuple") := by decide +kernel
theorem bt_int : bootBuiltins "int" = some (.type "int") := by decide +kernel
theorem bt_bool : bootBuiltins "bool" = some (.type "bool") := by decide +kernel
theorem bt_str : bootBuiltins "str" = some (.type "str") := by decide +kernel
abbrev rTup1 (K : PySem.W.Frag) : List V → Hp → VK → Prop := fun xs H Q => ∃ p ys, xs = [.ref p] ∧ ((SqL K H p ys ∧ ∀ l, H l = none → Q (.ref l) (upd H l (.tup ys))) ∨ (SqT K H p ys ∧ Q (.ref p) H))
abbrev rInt1 : List V → Hp → VK → Prop := fun xs H Q => (∃ i, xs = [.int i] ∧ Q (.int i) H) ∨ ∃ k, xs = [.bl k] ∧ Q (.int (if k then 1 else 0)) H
abbrev rStr1 : List V → Hp → VK → Prop := fun xs H Q => ∃ i, xs = [.int i] ∧ i.natAbs.log2 < 1920 ∧ Q (.str (toString i)) H
abbrev rMax2 : List V → Hp → VK → Prop := fun xs H Q => ∃ i j, xs = [.int i, .int j] ∧ Q (.int (if j > i then j else i)) H
section
variable {X : Cx} {P : Pm} {Wx : WX} {a b c e : Expr} {es : List Expr} {fa fb fc : M W} {fs : M (List W)} {pos p : Pos} {K : PySem.W.Frag}
theorem repWs1 {G : Hp} {m : List Addr} {xs : List V} {w : W} (h : RepWs K P G m xs [w]) : ∃ v, xs = [v] ∧ RepW K P G m v w := by
  cases h with
  | cons r t => cases t; exact ⟨_, rfl, r⟩
theorem repWs2 {G : Hp} {m : List Addr} {xs : List V} {w w' : W} (h : RepWs K P G m xs [w, w']) : ∃ v v', xs = [v, v'] ∧ RepW K P G m v w ∧ RepW K P G m v' w' := by
  cases h with
  | cons r t =>
    cases t with
    | cons r' t => cases t; exact ⟨_, _, rfl, r, r'⟩
/-! ### calls of built-ins -/
theorem se_callB {x : Str} {id : String} {r : List V → Hp → VK → Prop} {g : List W → Store → Res W} (hc : CallR X (.builtin id) r) (hr : CallOk X.K P g r) (hg : Gl X x) (hm : X.mg x = none) (hv : bootBuiltins x = some (.builtin id)) (ha : SA X P Wx (a :: es) fs)
    (hn : x ≠ "__name__" := by decide +kernel) (hdb : (x == ("__debug__" : Str)) = false := by decide +kernel) (he : starEach (a :: es) X.env = (false, eval a X.env) :: starEach es X.env := by rfl) (hpl : (backTo pos (starEach es X.env)).any (·.1) = false := by rfl) :
    SE X P Wx (.Call (.Name x p) (a :: es) [] pos) (appM g fs) :=
  conv (pe_callB hc hg hm hv ha hn hdb he hpl) fun σ H Q ⟨G, m, env, st, hE, hS, ho⟩ => goG hE hS ho fun G1 m1 H1 v w st1 x1 e1 s1 r1 o1 => hr s1 r1 o1
theorem se_callTy {x : Str} {T : String} {r : List V → Hp → VK → Prop} {g : List W → Store → Res W} (hc : CallR X (.type T) r) (hr : CallOk X.K P g r) (hg : Gl X x) (hm : X.mg x = none) (hv : bootBuiltins x = some (.type T)) (ha : SA X P Wx (a :: es) fs)
    (hn : x ≠ "__name__" := by decide +kernel) (hdb : (x == ("__debug__" : Str)) = false := by decide +kernel) (he : starEach (a :: es) X.env = (false, eval a X.env) :: starEach es X.env := by rfl) (hpl : (backTo pos (starEach es X.env)).any (·.1) = false := by rfl) :
    SE X P Wx (.Call (.Name x p) (a :: es) [] pos) (appM g fs) :=
  conv (pe_callTy hc hg hm hv ha hn hdb he hpl) fun σ H Q ⟨G, m, env, st, hE, hS, ho⟩ => goG hE hS ho fun G1 m1 H1 v w st1 x1 e1 s1 r1 o1 => hr s1 r1 o1
theorem co_1 {g : W → Store → Res W} {r : List V → Hp → VK → Prop} (h : UnOk K P g (fun v H Q => r [v] H Q)) : CallOk K P (app1 g) r := by
  intro G m H st xs as Q E hS ra ho
  match as, ra, ho with
  | [w], ra, ho =>
    obtain ⟨v, rfl, r1⟩ := repWs1 ra
    exact h hS r1 ho
  | [], _, ho => exact ho.elim
  | _ :: _ :: _, _, ho => exact ho.elim
theorem co_2 {g : W → W → Store → Res W} {r : List V → Hp → VK → Prop} (h : BinOk K P g (fun v u H Q => r [v, u] H Q)) : CallOk K P (app2 g) r := by
  intro G m H st xs as Q E hS ra ho
  match as, ra, ho with
  | [w, w'], ra, ho =>
    obtain ⟨v, u, rfl, r1, r2⟩ := repWs2 ra
    exact h hS r1 r2 ho
  | [], _, ho => exact ho.elim
  | [_], _, ho => exact ho.elim
  | _ :: _ :: _ :: _, _, ho => exact ho.elim

def rLenAll (K : PySem.W.Frag) : List V → Hp → VK → Prop := fun xs H Q => (∃ x n, xs = [x] ∧ LenV K x H n ∧ Q (.int n) H) ∨ ∃ a kvs, xs = [V.ref a] ∧ H a = some (.dK kvs) ∧ Q (.int kvs.length) H
theorem uo_len : UnOk K P lenW (fun v H Q => rLenAll K [v] H Q) := by
  intro G m H st x a Q E hS ra ho
  unfold lenW at ho
  split at ho
  · rename_i xs e1
    obtain ⟨p, vs, rfl, hp, r1⟩ := view_lst hS ra e1
    refine .inl ⟨.ref p, vs.length, rfl, .inl ⟨vs, SqL.of hp, rfl⟩, ?_⟩
    rw [r1.length]
    exact out_ok ho hS (show RepD K G _ _ from .int _)
  · rename_i xs e1
    obtain ⟨p, vs, rfl, hp, r1⟩ := view_tup hS ra e1
    refine .inl ⟨.ref p, vs.length, rfl, .inr ⟨vs, hS.sqT hp, rfl⟩, ?_⟩
    rw [r1.length]
    exact out_ok ho hS (show RepD K G _ _ from .int _)
  · rename_i ns e1
    obtain ⟨p, rfl, hp⟩ := view_scr hS ra e1
    refine .inl ⟨.ref p, ns.length, rfl, .inl ⟨_, hS.sqL hp, by rw [List.length_map]⟩, ?_⟩
    exact out_ok ho hS (show RepD K G _ _ from .int _)
  · rename_i kvs e1
    obtain ⟨p, ks, rfl, hp, r1⟩ := view_dct hS ra e1
    refine .inr ⟨p, ks, rfl, hp, ?_⟩
    rw [r1.length]
    exact out_ok ho hS (show RepD K G _ _ from .int _)
  · rename_i z e1
    rw [view_str hS ra e1]
    split at ho
    · exact .inl ⟨.str z, z.length, rfl, ⟨by assumption, rfl⟩, out_ok ho hS (show RepD K G _ _ from .int _)⟩
    · exact ho.elim
  · exact ho.elim
theorem se_len (hg : Gl X "len") (hm : X.mg "len" = none) (ha : SA X P Wx [a] fs) (he : starEach [a] X.env = (false, eval a X.env) :: starEach [] X.env := by rfl) (hpl : (backTo pos (starEach [] X.env)).any (·.1) = false := by rfl) : SE X P Wx (.Call (.Name "len" p) [a] [] pos) (appM (app1 lenW) fs) :=
  se_callB (callOr call_len call_lenD) (co_1 uo_len) hg hm PySem.boot_len ha (by decide +kernel) (by decide +kernel) he hpl
def rListAll (K : PySem.W.Frag) : List V → Hp → VK → Prop := fun xs H Q => (∃ p ys, xs = [.ref p] ∧ (SqL K H p ys ∨ SqT K H p ys) ∧ ∀ l, H l = none → Q (.ref l) (upd H l (.lst ys))) ∨
  ∃ (a : Addr) (kvs : List (Key × V)), xs = [.ref a] ∧ Rd H a (.dK kvs) ∧ ∀ p, H p = none → Q (.ref p) (upd H p (.lst (kvs.map fun kv => kV kv.1)))
theorem uo_list {own : Bool} : UnOk K P (listW own) (fun v H Q => rListAll K [v] H Q) := by
  intro G m H st x a Q E hS ra ho
  unfold listW at ho
  split at ho
  · rename_i xs e1
    obtain ⟨p, vs, rfl, hp, r1⟩ := view_lst hS ra e1
    obtain ⟨hz, q⟩ := out_newL ho hS r1
    exact .inl ⟨p, vs, rfl, .inl (SqL.of hp), q⟩
  · rename_i xs e1
    obtain ⟨p, vs, rfl, hp, r1⟩ := view_tup hS ra e1
    obtain ⟨hz, q⟩ := out_newL ho hS r1
    exact .inl ⟨p, vs, rfl, .inr (hS.sqT hp), q⟩
  · rename_i kvs e1
    obtain ⟨p, ks, rfl, hp, r1⟩ := view_dct hS ra e1
    obtain ⟨hz, q⟩ := out_newL ho hS r1.keys
    exact .inr ⟨p, ks, rfl, .inl hp, q⟩
  · exact ho.elim
theorem se_list (own : Bool) (hc : X.calm = true) (hg : Gl X "list") (hm : X.mg "list" = none) (ha : SA X P Wx [a] fs) (he : starEach [a] X.env = (false, eval a X.env) :: starEach [] X.env := by rfl) (hpl : (backTo pos (starEach [] X.env)).any (·.1) = false := by rfl) : SE X P Wx (.Call (.Name "list" p) [a] [] pos) (appM (app1 (listW own)) fs) :=
  se_callTy (callOr call_list_of (call_listD hc)) (co_1 uo_list) hg hm bt_list ha (by decide +kernel) (by decide +kernel) he hpl
theorem uo_tuple : UnOk K P tupleW (fun v H Q => rTup1 K [v] H Q) := by
  intro G m H st x a Q E hS ra ho
  unfold tupleW at ho
  split at ho
  · rename_i xs e1
    obtain ⟨p, vs, rfl, hp, r1⟩ := view_lst hS ra e1
    obtain ⟨hz, q⟩ := out_newT ho hS r1
    exact ⟨p, vs, rfl, .inl ⟨SqL.of hp, q⟩⟩
  · rename_i xs e1
    obtain ⟨p, vs, rfl, hp, r1⟩ := view_tup hS ra e1
    exact ⟨p, vs, rfl, .inr ⟨hS.sqT hp, out_sameT ho hS (.tup hp r1)⟩⟩
  · exact ho.elim
theorem se_tuple (hg : Gl X "tuple") (hm : X.mg "tuple" = none) (ha : SA X P Wx [a] fs) (he : starEach [a] X.env = (false, eval a X.env) :: starEach [] X.env := by rfl) (hpl : (backTo pos (starEach [] X.env)).any (·.1) = false := by rfl) : SE X P Wx (.Call (.Name "tuple" p) [a] [] pos) (appM (app1 tupleW) fs) :=
  se_callTy (r := rTup1 X.K) call_tuple_of (co_1 (r := rTup1 X.K) uo_tuple) hg hm bt_tuple ha (by decide +kernel) (by decide +kernel) he hpl
theorem uo_int : UnOk K P intW (fun v H Q => rInt1 [v] H Q) := by
  intro G m H st x a Q E hS ra ho
  unfold intW at ho
  split at ho
  · rename_i i e1
    rw [view_int hS ra e1]
    exact .inl ⟨i, rfl, out_ok ho hS (show RepD K G _ _ from .int _)⟩
  · rename_i i e1
    rw [view_bl hS ra e1]
    exact .inr ⟨i, rfl, out_ok ho hS (show RepD K G _ _ from .int _)⟩
  · exact ho.elim
theorem se_intc (hg : Gl X "int") (hm : X.mg "int" = none) (ha : SA X P Wx [a] fs) (he : starEach [a] X.env = (false, eval a X.env) :: starEach [] X.env := by rfl) (hpl : (backTo pos (starEach [] X.env)).any (·.1) = false := by rfl) : SE X P Wx (.Call (.Name "int" p) [a] [] pos) (appM (app1 intW) fs) :=
  se_callTy (r := rInt1) call_int1 (co_1 (r := rInt1) uo_int) hg hm bt_int ha (by decide +kernel) (by decide +kernel) he hpl
theorem log2_lt {n k : Nat} (h : n < 2 ^ k) (hk : 0 < k) : n.log2 < k := by
  by_cases h0 : n = 0
  · subst h0; simpa using hk
  · exact (Nat.log2_lt h0).mpr h
theorem uo_str : UnOk K P strW (fun v H Q => rStr1 [v] H Q) := by
  intro G m H st x a Q E hS ra ho
  unfold strW at ho
  split at ho
  · rename_i i e1
    rw [view_int hS ra e1]
    split at ho
    · rename_i hz
      exact ⟨i, rfl, Nat.lt_of_lt_of_le (log2_lt ((strOk9_iff _).mp hz) (by decide)) (by decide), out_ok ho hS (show RepD K G _ _ from .str _)⟩
    · exact ho.elim
  · exact ho.elim
theorem se_strc (hg : Gl X "str") (hm : X.mg "str" = none) (ha : SA X P Wx [a] fs) (he : starEach [a] X.env = (false, eval a X.env) :: starEach [] X.env := by rfl) (hpl : (backTo pos (starEach [] X.env)).any (·.1) = false := by rfl) : SE X P Wx (.Call (.Name "str" p) [a] [] pos) (appM (app1 strW) fs) :=
  se_callTy (r := rStr1) call_str_int (co_1 (r := rStr1) uo_str) hg hm bt_str ha (by decide +kernel) (by decide +kernel) he hpl
theorem bo_max : BinOk K P maxW (fun x y H Q => rMax2 [x, y] H Q) := by
  intro G m H st x y a b Q E hS ra rb ho
  unfold maxW at ho
  split at ho
  · rename_i i j e1 e2
    rw [view_int hS ra e1, view_int hS rb e2]
    exact ⟨i, j, rfl, out_ok ho hS (show RepD K G _ _ from .int _)⟩
  · exact ho.elim
theorem se_max (hc : X.calm = true) (hg : Gl X "max") (hm : X.mg "max" = none) (ha : SA X P Wx [a, b] fs) (he : starEach [a, b] X.env = (false, eval a X.env) :: starEach [b] X.env := by rfl) (hpl : (backTo pos (starEach [b] X.env)).any (·.1) = false := by rfl) : SE X P Wx (.Call (.Name "max" p) [a, b] [] pos) (appM (app2 maxW) fs) :=
  se_callB (r := rMax2) (call_max2 hc) (co_2 (r := rMax2) bo_max) hg hm boot_max ha (by decide +kernel) (by decide +kernel) he hpl
theorem maxI_is : ∀ (r : List Int) (i m : Int), m ∈ i :: r → (∀ y ∈ i :: r, y ≤ m) → maxI i r = m
  | [], i, m, h, _ => by
    rcases List.mem_cons.mp h with h | h
    · exact h.symm
    · cases h
  | j :: r, i, m, h, hle => by
    show maxI (if j > i then j else i) r = m
    have h1 := hle i List.mem_cons_self
    have h2 := hle j (List.mem_cons_of_mem _ List.mem_cons_self)
    refine maxI_is r _ m ?_ fun y hy => ?_
    · rcases List.mem_cons.mp h with h | h
      · subst h
        by_cases hj : j > m
        · omega
        · rw [if_neg hj]; exact List.mem_cons_self
      · rcases List.mem_cons.mp h with h | h
        · subst h
          by_cases hj : m > i
          · rw [if_pos hj]; exact List.mem_cons_self
          · have : i = m := by omega
            rw [if_neg hj, this]; exact List.mem_cons_self
        · exact List.mem_cons_of_mem _ h
    · rcases List.mem_cons.mp hy with h | h
      · subst h
        split <;> omega
      · exact hle y (List.mem_cons_of_mem _ (List.mem_cons_of_mem _ h))
theorem uo_maxL : UnOk K P maxLW (fun v H Q => rMax K [v] H Q) := by
  intro G m H st x a Q E hS ra ho
  unfold maxLW at ho
  split at ho
  · rename_i xs e1
    obtain ⟨p, vs, rfl, hp, r1⟩ := view_lst hS ra e1
    split at ho
    · rename_i i r hi
      have ev := RepL.intsOf r1 hi
      subst ev
      refine ⟨p, i :: r, rfl, SqL.of hp, by simp, fun k hk hle => ?_⟩
      rw [← maxI_is r i k hk hle]
      exact out_ok ho hS (show RepD K G _ _ from .int _)
    · exact ho.elim
  · exact ho.elim
theorem se_maxL (hc : X.calm = true) (hg : Gl X "max") (hm : X.mg "max" = none) (ha : SA X P Wx [a] fs) (he : starEach [a] X.env = (false, eval a X.env) :: starEach [] X.env := by rfl) (hpl : (backTo pos (starEach [] X.env)).any (·.1) = false := by rfl) : SE X P Wx (.Call (.Name "max" p) [a] [] pos) (appM (app1 maxLW) fs) :=
  se_callB (cr_max hc) (co_1 uo_maxL) hg hm boot_max ha (by decide +kernel) (by decide +kernel) he hpl
/-! ### displays -/
theorem toDs_cases {G : Hp} {m : List Addr} {H : Hp} {st : Store} {vs : List V} {ws : List W} {α : Type} {Rp : Hp → List Addr → α → W → Prop} {k : List D → Store → Res W} {Q : α → Hp → Prop} {E : Exc → Hp → Prop} (hS : RS0 K P G m H st) (r : RepWs K P G m vs ws)
    (ho : OutG K P G m H Rp ((toDs ws st).bind k) Q E) : ∃ G' ds st', RS0 K P G' m H st' ∧ Ext G m H G' m H ∧ RepL K G' vs ds ∧ OutG K P G' m H Rp (k ds st') Q E := by
  have noE : ∀ {ws : List W} {st : Store} {c : Exc} {s : Store}, toDs ws st ≠ .err c s := by
    intro ws
    induction ws with
    | nil => intro st c s h; cases h
    | cons w ws ih =>
      intro st c s h
      have h' : (toD w st).bind (fun d st1 => (toDs ws st1).bind fun ds st2 => .ok (d :: ds) st2) = .err c s := h
      unfold toD at h'
      cases q : asD st w with
      | none => rw [q] at h'; cases h'
      | some d =>
        rw [q] at h'
        simp only [Res.bind_ok] at h'
        cases q2 : toDs ws (frzW w d st) with
        | ok ds s2 => rw [q2] at h'; cases h'
        | err c' s2 => exact ih q2
        | stuck => rw [q2] at h'; cases h'
  cases q : toDs ws st with
  | ok ds st' =>
    obtain ⟨G', s1, x1, r1⟩ := RS0.toDs hS r q
    rw [q] at ho
    exact ⟨G', ds, st', s1, x1, r1, ho.shift x1⟩
  | err c s => exact absurd q noE
  | stuck => rw [q] at ho; exact ho.elim
theorem se_tup {k : Nat} (h : SA X P Wx es fs) : SE X P Wx (.Tuple es k pos) (tupM fs) :=
  conv (pe_tup h) fun σ H Q ⟨G, m, env, st, hE, hS, ho⟩ => goG hE hS ho fun G1 m1 H1 v w st1 x1 e1 s1 r1 o1 => by
    obtain ⟨G', ds, st', s2, x2, r2, o2⟩ := toDs_cases s1 r1 o1
    exact out_newT o2 s2 r2
theorem se_lst (own : Bool) (h : SA X P Wx es fs) : SE X P Wx (.List es pos) (lstM own fs) :=
  conv (pe_lst h) fun σ H Q ⟨G, m, env, st, hE, hS, ho⟩ => goG hE hS ho fun G1 m1 H1 v w st1 x1 e1 s1 r1 o1 => by
    obtain ⟨G', ds, st', s2, x2, r2, o2⟩ := toDs_cases s1 r1 o1
    exact out_newL o2 s2 r2
/-- {} -/
def dnewM (own : Bool) : M W := fun _ st => newDc own [] st
theorem se_dnew (own : Bool) : SE X P Wx (.Dict [] [] pos) (dnewM own) := conv pe_dnewK fun σ H Q ⟨G, m, env, st, hE, hS, ho⟩ => out_newDc ho hS .nil

/-! ### tests -/
theorem st_tv (ha : SE X P Wx a fa) (he : ∀ whole, isTrue a X.env whole = (do let v ← whole; standAt a.pos; holding [v] (truthy v)) := by intro _; rfl) : ST X P Wx a (tvM fa) :=
  convT (pt_val ha he) fun σ H Q ⟨G, m, env, st, hE, hS, ho⟩ => goG hE hS ho fun G1 m1 H1 v w st1 x1 e1 s1 r1 o1 => out_tv s1 r1 o1
theorem st_tru (ha : SE X P Wx a fa) (he : ∀ whole, isTrue a X.env whole = (do let v ← whole; standAt a.pos; holding [v] (truthy v)) := by intro _; rfl) : ST X P Wx a (truM fa) :=
  convT (pt_truth ha he) fun σ H Q ⟨G, m, env, st, hE, hS, ho⟩ => goG hE hS ho fun G1 m1 H1 v w st1 x1 e1 s1 r1 o1 => by
    split at o1
    · rename_i b e2
      rw [view_bl s1 r1 e2]
      exact ⟨b, rfl, o1 G1 m1 H1 b .refl s1 rfl⟩
    · rename_i xs e2
      obtain ⟨p, vs, rfl, hp, r2⟩ := view_lst s1 r1 e2
      have el : vs.isEmpty = xs.isEmpty := by cases r2 <;> rfl
      exact ⟨!xs.isEmpty, .inl ⟨vs, SqL.of hp, by rw [el]⟩, o1 G1 m1 H1 _ .refl s1 rfl⟩
    · exact o1.elim
abbrev SW (X : Cx) (P : Pm) (Wx : WX) (e : Expr) (f : M Bool) : Prop := PW X e (rT X.K P Wx f)
theorem convW {t t' : TT} (h : PW X e t) (c : ∀ σ H Q, t' σ H Q → t σ H Q) : PW X e t' := ⟨fun wh pins s σ H Q I q => h.run wh pins s σ H Q I (c σ H Q q)⟩
variable {ta tb : M Bool} {rest : List Expr}
theorem sw_and1 (ha : ST X P Wx a ta) : SW X P Wx (.BoolOp .And [a] pos) ta := pw_and1 ha
theorem sw_or1 (ha : ST X P Wx a ta) : SW X P Wx (.BoolOp .Or [a] pos) ta := pw_or1 ha
theorem sw_and (ha : ST X P Wx a ta) (hb : SW X P Wx (.BoolOp .And (b :: rest) pos) tb) : SW X P Wx (.BoolOp .And (a :: b :: rest) pos) (andT ta tb) :=
  convW (pw_and ha hb) fun σ H Q ⟨G, m, env, st, hE, hS, ho⟩ => goG hE hS ho fun G1 m1 H1 v w st1 x1 e1 s1 r1 o1 => by
    have r1' : v = w := r1
    subst r1'
    cases v with
    | true => exact ⟨G1, m1, env, st1, e1, s1, o1⟩
    | false => exact o1 G1 m1 H1 false .refl s1 rfl
theorem sw_or (ha : ST X P Wx a ta) (hb : SW X P Wx (.BoolOp .Or (b :: rest) pos) tb) : SW X P Wx (.BoolOp .Or (a :: b :: rest) pos) (orT ta tb) :=
  convW (pw_or ha hb) fun σ H Q ⟨G, m, env, st, hE, hS, ho⟩ => goG hE hS ho fun G1 m1 H1 v w st1 x1 e1 s1 r1 o1 => by
    have r1' : v = w := r1
    subst r1'
    cases v with
    | false => exact ⟨G1, m1, env, st1, e1, s1, o1⟩
    | true => exact o1 G1 m1 H1 true .refl s1 rfl
theorem st_w (h : SW X P Wx a ta) : ST X P Wx a ta := PW.pt h
theorem st_not (ha : ST X P Wx a ta) : ST X P Wx (.UnaryOp .Not a pos) (notT ta) :=
  convT (pt_not ha) fun σ H Q ⟨G, m, env, st, hE, hS, ho⟩ => goG hE hS ho fun G1 m1 H1 v w st1 x1 e1 s1 r1 o1 => by
    have r1' : v = w := r1
    subst r1'
    exact o1 G1 m1 H1 _ .refl s1 rfl
theorem se_one {op : BoolOp} (h : SE X P Wx a fa) : SE X P Wx (.BoolOp op [a] pos) fa := pe_one h
theorem se_and (ha : SE X P Wx a fa) (hb : SE X P Wx (.BoolOp .And (b :: rest) pos) fb) : SE X P Wx (.BoolOp .And (a :: b :: rest) pos) (andV fa fb) :=
  conv (pe_and ha hb) fun σ H Q ⟨G, m, env, st, hE, hS, ho⟩ => goG hE hS ho fun G1 m1 H1 v w st1 x1 e1 s1 r1 o1 => by
    obtain ⟨c, rfl, o2⟩ := out_bl r1 o1
    refine ⟨c, rfl, ?_⟩
    cases c with
    | true => exact ⟨G1, m1, env, st1, e1, s1, o2⟩
    | false => exact out_ok o2 s1 (show RepD X.K G1 _ _ from .bl _)
theorem se_not (ha : SE X P Wx a fa) : SE X P Wx (.UnaryOp .Not a pos) (notV fa) :=
  conv (pe_not ha) fun σ H Q ⟨G, m, env, st, hE, hS, ho⟩ => goG hE hS ho fun G1 m1 H1 v w st1 x1 e1 s1 r1 o1 => by
    obtain ⟨c, rfl, o2⟩ := out_bl r1 o1
    exact ⟨c, rfl, out_ok o2 s1 (show RepD X.K G1 _ _ from .bl _)⟩
end
end Py

namespace Py
open PySem L2 PySem.Spec PyProof.Rows
section
variable {X : Cx} {P : Pm} {Wx : WX} {a b c e : Expr} {es : List Expr} {fa fb fc : M W} {fs : M (List W)} {pos p : Pos} {K : PySem.W.Frag}
theorem tyOf_ok {G : Hp} {m : List Addr} {H : Hp} {st : Store} {v : V} {w : W} {t : String} (hS : RS0 K P G m H st) (r : RepW K P G m v w) (e : tyOf st w = some t) (ht : t ≠ "object") : TyX K H v (.type t) := by
  have tupTy : ∀ {a : Addr} {vs : List V}, SqT K H a vs → TyX K H (.ref a) (.type "tuple") := fun {a vs} h => by
    rcases h with (h | ⟨o, h⟩) | ⟨o, its, n, h1, h2, _⟩
    · exact .base (.tup h)
    · exact .fTuple h
    · exact .kTuple h1 h2
  cases w with
  | d x =>
    cases x with
    | non => cases e; cases r; exact .base .non
    | bl b => cases e; cases r; exact .base (.bl b)
    | int b => cases e; cases r; exact .base (.int b)
    | str b => cases e; cases r; exact .base (.str b)
    | tup xs =>
      cases e
      cases r with
      | tup h _ => exact tupTy (hS.sqT h)
    | lst xs =>
      cases e
      cases r with
      | lst h _ => exact .base (.lst (hS.sub _ _ h))
    | dct xs =>
      cases e
      cases r with
      | dct h _ => exact .base (.dK (hS.sub _ _ h))
    | scr ns => cases e
  | exc => cases e
  | c k =>
    obtain ⟨a, ha, rfl⟩ := r
    have e' : (match st[k]? with
      | some (.lst _) => some "list"
      | some (.dct _) => some "dict"
      | some (.obj _) => some "object"
      | some (.frz (.lst _)) => some "list"
      | some (.frz (.dct _)) => some "dict"
      | _ => none) = some t := e
    cases q : st[k]? with
    | none => rw [q] at e'; cases e'
    | some c =>
      rw [q] at e'
      have z := hS.cell k a c ha q
      cases c with
      | lst xs => cases e'; obtain ⟨_, vs, h, _⟩ := z; exact .base (.lst h)
      | dct xs => cases e'; obtain ⟨_, vs, h, _⟩ := z; exact .base (.dK h)
      | obj fs => cases e'; exact absurd rfl ht
      | frz d =>
        cases d with
        | lst xs =>
          cases e'
          cases z with
          | lst h _ => exact .base (.lst (hS.sub _ _ h))
        | dct xs =>
          cases e'
          cases z with
          | dct h _ => exact .base (.dK (hS.sub _ _ h))
        | _ => cases e'
/-- what isinstance answers for one written class -/
structure IsTy (K : PySem.W.Frag) (P : Pm) (u : String) : Prop where
  one : ∀ t ∈ ["NoneType", "bool", "int", "str", "tuple", "list", "dict"], PySem.W.kitOne K (.type t) (.type u) = some (isiOne t u)
theorem tyOf_mem {st : Store} {w : W} {t : String} (e : tyOf st w = some t) : t ∈ ["NoneType", "bool", "int", "str", "tuple", "list", "dict"] ∨ t = "object" := by
  cases w with
  | d x => cases x <;> cases e <;> exact .inl (by decide)
  | exc => cases e
  | c k =>
    have e' : (match st[k]? with
      | some (.lst _) => some "list"
      | some (.dct _) => some "dict"
      | some (.obj _) => some "object"
      | some (.frz (.lst _)) => some "list"
      | some (.frz (.dct _)) => some "dict"
      | _ => none) = some t := e
    cases q : st[k]? with
    | none => rw [q] at e'; cases e'
    | some c =>
      rw [q] at e'
      cases c with
      | lst _ => cases e'; exact .inl (by decide)
      | dct _ => cases e'; exact .inl (by decide)
      | obj _ => cases e'; exact .inr rfl
      | frz d => cases d <;> cases e' <;> exact .inl (by decide)
/-- isinstance(x, u), u a built-in class; objects are not asked -/
def isi1 (u : String) (x : W) (st : Store) : Res W := match tyOf st x with
  | some t => if t = "object" then .stuck else .ok (.d (.bl (isiOne t u))) st
  | none => .stuck
theorem isTy_of {u : String} (h : (["NoneType", "bool", "int", "str", "tuple", "list", "dict"].all fun t => kitB t u == some (isiOne t u)) = true) : IsTy K P u := ⟨fun t ht => by
  have z := List.all_eq_true.mp h t ht
  exact kit_ty (by simpa using z)⟩
theorem se_isi {u : String} {x : Str} {pu : Pos} (hk : (["NoneType", "bool", "int", "str", "tuple", "list", "dict"].all fun t => kitB t u == some (isiOne t u)) = true)
    (hg : Gl X "isinstance") (hm : X.mg "isinstance" = none) (hgu : Gl X x) (hmu : X.mg x = none) (hv : bootBuiltins x = some (.type u)) (ha : SE X P Wx a fa)
    (hn : x ≠ "__name__" := by decide +kernel) (hdb : (x == ("__debug__" : Str)) = false := by decide +kernel)
    (h1 : starEach [a, .Name x pu] X.env = (false, eval a X.env) :: starEach [.Name x pu] X.env := by rfl) (h2 : starEach [.Name x pu] X.env = (false, eval (.Name x pu) X.env) :: starEach [] X.env := by rfl) (hpl : (backTo pos (starEach [.Name x pu] X.env)).any (·.1) = false := by rfl) :
    SE X P Wx (.Call (.Name "isinstance" p) [a, .Name x pu] [] pos) (unM (isi1 u) fa) :=
  conv (pe_callB call_isi hg hm boot_isinstance (pa_cons ha (pa_cons (pe_bltn (v := .ty u) hgu hmu hv rfl hn hdb) pa_nil h2) h1) (by decide +kernel) (by decide +kernel) h1 hpl) fun σ H Q ⟨G, m, env, st, hE, hS, ho⟩ =>
    goG hE hS ho fun G1 m1 H1 v w st1 x1 e1 s1 r1 o1 => by
      have T : IsTy X.K P u := isTy_of hk
      unfold isi1 at o1
      split at o1
      · rename_i t e2
        split at o1
        · exact o1.elim
        · rename_i ht
          refine ⟨v, .ty u, .type t, .type u, isiOne t u, rfl, .ty u, tyOf_ok s1 r1 e2 ht, T.one t ((tyOf_mem e2).resolve_right ht), out_ok o1 s1 (show RepD X.K G1 _ _ from .bl _)⟩
      · exact o1.elim
/-! ### methods of lists -/
theorem isLst_ty {G : Hp} {m : List Addr} {H : Hp} {st : Store} {v : V} {w : W} (hS : RS0 K P G m H st) (r : RepW K P G m v w) (e : isLst w st = true) : tyV K "list" v H := by
  unfold isLst at e
  split at e
  · rename_i xs e1
    obtain ⟨p, vs, rfl, hp, _⟩ := view_lst hS r e1
    exact .inl ⟨rfl, _, SqL.of hp⟩
  · cases e
def MtOk (K : PySem.W.Frag) (P : Pm) (g : W → List W → Store → Res W) (r : V → List V → Hp → VK → Prop) : Prop :=
  ∀ {G : Hp} {m : List Addr} {H : Hp} {st : Store} {x : V} {xs : List V} {a : W} {as : List W} {Q : VK} {E : Exc → Hp → Prop}, RS0 K P G m H st → RepW K P G m x a → RepWs K P G m xs as → OutG K P G m H (RepW K P) (g a as st) Q E → r x xs H Q
theorem se_methL {name : Str} {id : String} {r : V → List V → Hp → VK → Prop} {g : W → List W → Store → Res W} {apos : Pos} (slot : Slot "list" name id) (hty : typeOf (.builtin id) = pure (.type "method_descriptor")) (hm : MtR X id r) (hr : MtOk X.K P g r)
    (ho : SE X P Wx a fa) (ha : SA X P Wx (b :: es) fs) (hbase : attributeBase a name X.env (eval a X.env) = eval a X.env := by rfl)
    (hfew : ((backTo pos (starEach (b :: es) X.env)).all (fun x => !x.1) && (backToKw pos (keywordEach [] X.env)).all (fun x => x.1.isSome)
      && decide ((b :: es).length + ([] : List Keyword).length + (if ([] : List Keyword).isEmpty then 0 else 1) < 30)) = true := by rfl)
    (hline : (apos.endLine == pos.line) = true := by rfl) (hs : starEach (b :: es) X.env = (false, eval b X.env) :: starEach es X.env := by rfl) (hplain : (backTo pos (starEach es X.env)).any (·.1) = false := by rfl) :
    SE X P Wx (.Call (.Attribute a name apos) (b :: es) [] pos) (methL g fa fs) :=
  conv (pe_bm PySem.F.plainAttrs_list slot hty hm ho ha hbase hfew hline hs hplain) fun σ H Q ⟨G, m, env, st, hE, hS, ho⟩ => goG hE hS ho fun G1 m1 H1 v w st1 x1 e1 s1 r1 o1 => by
    by_cases hl : isLst w st1 = true
    · rw [if_pos hl] at o1
      exact ⟨isLst_ty s1 r1 hl, goG e1 s1 o1 fun G2 m2 H2 v2 w2 st2 x2 e2 s2 r2 o2 => hr s2 (r1.mono x2.g x2.pre) r2 o2⟩
    · rw [if_neg hl] at o1
      exact o1.elim
theorem se_methL0 {name : Str} {id : String} {r : V → List V → Hp → VK → Prop} {g : W → List W → Store → Res W} {apos : Pos} (slot : Slot "list" name id) (hty : typeOf (.builtin id) = pure (.type "method_descriptor")) (hm : MtR X id r) (hr : MtOk X.K P g r)
    (ho : SE X P Wx a fa) (hbase : attributeBase a name X.env (eval a X.env) = eval a X.env := by rfl) (hline : (apos.endLine == pos.line) = true := by rfl) :
    SE X P Wx (.Call (.Attribute a name apos) [] [] pos) (methL g fa nilA) :=
  conv (pe_bm0 PySem.F.plainAttrs_list slot hty hm ho hbase hline) fun σ H Q ⟨G, m, env, st, hE, hS, ho⟩ => goG hE hS ho fun G1 m1 H1 v w st1 x1 e1 s1 r1 o1 => by
    by_cases hl : isLst w st1 = true
    · rw [if_pos hl] at o1
      exact ⟨isLst_ty s1 r1 hl, hr (as := []) s1 r1 .nil o1⟩
    · rw [if_neg hl] at o1
      exact o1.elim
/-- a live list cell -/
theorem live_lst {G : Hp} {m : List Addr} {H : Hp} {st : Store} {v : V} {k : Nat} {xs : List D} (hS : RS0 K P G m H st) (r : RepW K P G m v (.c k)) (e : st[k]? = some (.lst xs)) : ∃ a vs, v = .ref a ∧ m[k]? = some a ∧ G a = none ∧ H a = some (.lst vs) ∧ RepL K G vs xs := by
  obtain ⟨a, ha, rfl⟩ := r
  obtain ⟨n, vs, h, l⟩ := hS.cell k a _ ha e
  exact ⟨a, vs, rfl, ha, n, h, l⟩
theorem live_dct {G : Hp} {m : List Addr} {H : Hp} {st : Store} {v : V} {k : Nat} {xs : List (Str × D)} (hS : RS0 K P G m H st) (r : RepW K P G m v (.c k)) (e : st[k]? = some (.dct xs)) : ∃ a vs, v = .ref a ∧ m[k]? = some a ∧ G a = none ∧ H a = some (.dK vs) ∧ RepK K G vs xs := by
  obtain ⟨a, ha, rfl⟩ := r
  obtain ⟨n, vs, h, l⟩ := hS.cell k a _ ha e
  exact ⟨a, vs, rfl, ha, n, h, l⟩
theorem out_wlst {G : Hp} {m : List Addr} {H : Hp} {st : Store} {a : Addr} {k : Nat} {xs : List D} {vs : List V} {w : W} {u : V} {Q : VK} {E : Exc → Hp → Prop} (hS : RS0 K P G m H st) (ha : m[k]? = some a) (hg : G a = none) (l : RepL K G vs xs) (hu : RepW K P G m u w)
    (ho : OutG K P G m H (RepW K P) (.ok w (st.set k (.lst xs))) Q E) : Q u (upd H a (.lst vs)) := by
  have hc : CellOk K P G m (upd H a (.lst vs)) a (.lst xs) := ⟨hg, vs, upd_same, l⟩
  obtain ⟨s1, x1⟩ := hS.write ha hg hc
  exact ho G m _ u x1 s1 hu
theorem mo_append : MtOk K P (arg1 appendW) rAppend := by
  intro G m H st x xs a as Q E hS ra rs ho
  match as, rs, ho with
  | [y], rs, ho =>
    obtain ⟨v, rfl, r1⟩ := repWs1 rs
    simp only [arg1, appendW] at ho
    cases a with
    | d _ => exact ho.elim
    | exc => exact ho.elim
    | c k =>
      simp only [toD] at ho
      cases q : asD st y with
      | none => rw [q] at ho; exact ho.elim
      | some d =>
        rw [q] at ho
        simp only [Res.bind_ok] at ho
        obtain ⟨G', s1, x1, rd⟩ := hS.toD r1 q
        replace ho := ho.shift x1
        split at ho
        · rename_i zs hz
          obtain ⟨p, vs, rfl, hp, hn, hh, l⟩ := live_lst s1 (RepW.mono x1.g x1.pre ra) hz
          split at ho
          · rename_i hlt
            refine ⟨p, vs, v, rfl, rfl, hh, by rw [l.length]; exact hlt, ?_⟩
            exact out_wlst (w := .d .non) s1 hp hn (l.append (.one rd)) .non ho
          · exact ho.elim
        · exact ho.elim
  | [], _, ho => exact ho.elim
  | _ :: _ :: _, _, ho => exact ho.elim
theorem se_append {apos : Pos} (ho : SE X P Wx a fa) (ha : SA X P Wx [b] fs) (hbase : attributeBase a "append" X.env (eval a X.env) = eval a X.env := by rfl)
    (hfew : ((backTo pos (starEach [b] X.env)).all (fun x => !x.1) && (backToKw pos (keywordEach [] X.env)).all (fun x => x.1.isSome)
      && decide ([b].length + ([] : List Keyword).length + (if ([] : List Keyword).isEmpty then 0 else 1) < 30)) = true := by rfl)
    (hline : (apos.endLine == pos.line) = true := by rfl) (hs : starEach [b] X.env = (false, eval b X.env) :: starEach [] X.env := by rfl) (hplain : (backTo pos (starEach [] X.env)).any (·.1) = false := by rfl) :
    SE X P Wx (.Call (.Attribute a "append" apos) [b] [] pos) (methL (arg1 appendW) fa fs) :=
  se_methL PySem.F.slot_list_append PySem.F.type_list_append mt_append mo_append ho ha hbase hfew hline hs hplain
theorem list_extendT (l : Addr) (items : Array Value) (n : Nat) (b : Addr) (items2 : Array Value) (n2 : Nat) (dd2 : Option Addr) (sl2 : Array (Option Value)) (hs0 : ¬(!items.isEmpty && Builtin.List.listTooLong (items.size + items2.size)) = true) (hs1 : items.size ≤ sizeLine) (hs2 : items.size + items2.size ≤ sizeLine + 1) :
    Meets (Builtin.«list.extend» ⟨[.ref l, .ref b], []⟩) (fun _ R s => s.heap.get? l = some { cls := .type "list", dict := none, data := .seq items n, slots := #[] } ∧ s.heap.get? b = some { cls := .type "tuple", dict := dd2, data := .seq items2 n2, slots := sl2 } ∧ R (.ok (.ret Value.none)) { s with heap := s.heap.update l (Obj.mapSeq fun x => x ++ items2), toks := s.toks }) :=
  .of_wp fun prog w A R s h => by
    obtain ⟨hp, g, d, tk, os⟩ := s; obtain ⟨hl, hb, h⟩ := h; have f1 := AutoSeq1.idx_int; have f2 := AutoSeq1.sub_tuple_tuple; have f3 := AutoSeq1.sub_list_list; have f4 := AutoSeq1.sub_tuple_list; have f5 := AutoSeq1.sub_list_tuple
    have hz' : (items ++ items2).size ≤ sizeLine + 1 := by rw [Array.size_append]; exact hs2
    wp_walk using (wpAny_updateSeq hl rfl (hz := hs1) (_hz' := hz')), wpAny_loadPart' hl, wpAny_loadPart' hb; exact ⟨_, rfl, h⟩
def rExtendT (K : PySem.W.Frag) : V → List V → Hp → VK → Prop := fun x vs H Q => ∃ l b xs zs, x = .ref l ∧ vs = [.ref b] ∧ H l = some (.lst xs) ∧ SqT K H b zs ∧ xs.length + zs.length ≤ sizeLine ∧ Q .non (upd H l (.lst (xs ++ zs)))
theorem mt_extendT : MtM X "list.extend" (rExtendT X.K) := by
  intro pins s σ H x vs v us Q I rx rv h
  obtain ⟨l, b, xs, zs, rfl, rfl, hH, hB, hz, q⟩ := h
  cases rx
  obtain ⟨u, rfl, ru⟩ := rv.one
  cases ru
  obtain ⟨z, its, n, r, hl, e⟩ := I.lstM hH
  obtain ⟨its2, r2, ⟨⟨cls2, dd2, data2, sl2⟩, e2, hc2, n2, hd2⟩, hz2⟩ := I.tuple hB
  simp only at hc2 hd2
  subst hc2 hd2
  have hl2 := r2.length
  have hsz : its.toArray.size + its2.toArray.size ≤ sizeLine := by rw [List.size_toArray, List.size_toArray]; omega
  have hlong : ¬ (!its.toArray.isEmpty && Builtin.List.listTooLong (its.toArray.size + its2.toArray.size)) = true := by
    rw [notLongL hsz, Bool.and_false]
    exact Bool.false_ne_true
  refine call_meets F.slot_list_extend ⟨_, e, rfl⟩ F.entry_list_extend (F.args_list_extend_2 _ _)
    (list_extendT l its.toArray n b its2.toArray n2 dd2 sl2 hlong (by rw [List.size_toArray]; omega) (by omega)) ⟨e, e2, ?_⟩
  refine ⟨.non, _, I.lset (its' := its ++ its2) hH e (by simp) (r.append r2) ?_, rfl, q⟩
  rw [List.length_append]
  omega
theorem mo_extend : MtOk K P (arg1 extendW) (fun x xs H Q => rExtend x xs H Q ∨ rExtendT K x xs H Q) := by
  intro G m H st x xs a as Q E hS ra rs ho
  match as, rs, ho with
  | [y], rs, ho =>
    obtain ⟨v, rfl, r1⟩ := repWs1 rs
    simp only [arg1, extendW] at ho
    cases a with
    | d _ => exact ho.elim
    | exc => exact ho.elim
    | c k =>
      simp only at ho
      split at ho
      · rename_i zs ys hz hy
        obtain ⟨p, vs, rfl, hp, hn, hh, l⟩ := live_lst hS ra hz
        obtain ⟨q, us, rfl, hq, l2⟩ := view_lst hS r1 hy
        split at ho
        · rename_i hlt
          refine .inl ⟨p, q, vs, us, rfl, rfl, hh, hq, by rw [l.length, l2.length]; exact hlt.1, ?_⟩
          exact out_wlst (w := .d .non) hS hp hn (l.append l2) .non ho
        · exact ho.elim
      · rename_i zs ys hz hy
        obtain ⟨p, vs, rfl, hp, hn, hh, l⟩ := live_lst hS ra hz
        obtain ⟨q, us, rfl, hq, l2⟩ := view_tup hS r1 hy
        split at ho
        · rename_i hlt
          refine .inr ⟨p, q, vs, us, rfl, rfl, hh, hS.sqT hq, by rw [l.length, l2.length]; exact hlt, ?_⟩
          exact out_wlst (w := .d .non) hS hp hn (l.append l2) .non ho
        · exact ho.elim
      · exact ho.elim
  | [], _, ho => exact ho.elim
  | _ :: _ :: _, _, ho => exact ho.elim
theorem se_extend {apos : Pos} (ho : SE X P Wx a fa) (ha : SA X P Wx [b] fs) (hbase : attributeBase a "extend" X.env (eval a X.env) = eval a X.env := by rfl)
    (hfew : ((backTo pos (starEach [b] X.env)).all (fun x => !x.1) && (backToKw pos (keywordEach [] X.env)).all (fun x => x.1.isSome)
      && decide ([b].length + ([] : List Keyword).length + (if ([] : List Keyword).isEmpty then 0 else 1) < 30)) = true := by rfl)
    (hline : (apos.endLine == pos.line) = true := by rfl) (hs : starEach [b] X.env = (false, eval b X.env) :: starEach [] X.env := by rfl) (hplain : (backTo pos (starEach [] X.env)).any (·.1) = false := by rfl) :
    SE X P Wx (.Call (.Attribute a "extend" apos) [b] [] pos) (methL (arg1 extendW) fa fs) :=
  se_methL PySem.F.slot_list_extend PySem.F.type_list_extend (MtR.or mt_extend mt_extendT) mo_extend ho ha hbase hfew hline hs hplain
theorem mo_pop : MtOk K P (arg0 popW) rPop := by
  intro G m H st x xs a as Q E hS ra rs ho
  match as, rs, ho with
  | [], .nil, ho =>
    simp only [arg0, popW] at ho
    cases a with
    | d _ => exact ho.elim
    | exc => exact ho.elim
    | c k =>
      simp only at ho
      split at ho
      · rename_i zs hz
        obtain ⟨p, vs, rfl, hp, hn, hh, l⟩ := live_lst hS ra hz
        split at ho
        · rename_i d hd
          have hd' : zs[zs.length - 1]? = some d := by rw [← List.getLast?_eq_getElem?]; exact hd
          obtain ⟨v, hv, rv⟩ := l.get hd'
          refine ⟨p, vs, v, rfl, rfl, hh, by rw [l.length]; exact hv, ?_⟩
          exact out_wlst (w := .d d) hS hp hn l.dropLast rv ho
        · exact ho.elim
      · exact ho.elim
  | _ :: _, _, ho => exact ho.elim
theorem se_pop {apos : Pos} (ho : SE X P Wx a fa) (hbase : attributeBase a "pop" X.env (eval a X.env) = eval a X.env := by rfl) (hline : (apos.endLine == pos.line) = true := by rfl) :
    SE X P Wx (.Call (.Attribute a "pop" apos) [] [] pos) (methL (arg0 popW) fa nilA) := se_methL0 PySem.F.slot_list_pop PySem.F.type_list_pop mt_pop mo_pop ho hbase hline
/-- ''.join(xs) -/
theorem se_join {z : Str} {j : Nat} {pz apos : Pos} (ha : SE X P Wx a fa) (hs : starEach [a] X.env = [(false, eval a X.env)] := by rfl) (hbase : attributeBase (.Constant (.str z) j pz) "join" X.env (eval (.Constant (.str z) j pz) X.env) = eval (.Constant (.str z) j pz) X.env := by rfl)
    (hline : (apos.endLine == pos.line) = true := by rfl) : SE X P Wx (.Call (.Attribute (.Constant (.str z) j pz) "join" apos) [a] [] pos) (unM (joinS z) fa) :=
  conv (pe_join (pe_str (x := z)) ha hs hbase hline) fun σ H Q ⟨G, m, env, st, hE, hS, ho⟩ => ⟨⟨z, rfl⟩, goG hE hS ho fun G1 m1 H1 v w st1 x1 e1 s1 r1 o1 => by
    unfold joinS at o1
    split at o1
    · rename_i xs e2
      obtain ⟨p, vs, rfl, hp, l⟩ := view_lst s1 r1 e2
      split at o1
      · rename_i ys hy
        have ev := RepL.strs l hy
        subst ev
        split at o1
        · exact ⟨z, p, ys, rfl, rfl, .inl (SqL.of hp), by assumption, out_ok o1 s1 (show RepD X.K G1 _ _ from .str _)⟩
        · exact o1.elim
      · exact o1.elim
    · exact o1.elim⟩
/-! ### fields -/
theorem RepW.ofCore {G : Hp} {m : List Addr} {v : V} {w : W} (r : RepW K P.core G m v w) : RepW K P G m v w := by
  cases w with
  | d x => exact r
  | c k => exact r
  | exc => obtain ⟨a, e, _⟩ := r; cases e
theorem RepW.toCore {G : Hp} {m : List Addr} {v : V} {w : W} (r : RepW K P G m v w) (h : w.isExc = false) : RepW K P.core G m v w := by
  cases w with
  | d x => exact r
  | c k => exact r
  | exc => cases h
theorem RepF.get {G : Hp} {m : List Addr} {f : Str} {w : W} : ∀ {vs : List (Str × V)} {ws : List (Str × W)}, RepF K P G m vs ws → getF f ws = some w → ∃ v, vs.lookup f = some v ∧ RepW K P.core G m v w
  | _, _, .nil, e => by cases e
  | _, _, .cons (k := k) (ws := ws) (w := w') r l, e => by
    have e' : (if k = f then some w' else getF f ws) = some w := e
    by_cases h : k = f
    · rw [if_pos h] at e'
      cases e'
      subst h
      exact ⟨_, by rw [List.lookup_cons, beq_self_eq_true], r⟩
    · rw [if_neg h] at e'
      obtain ⟨v, h1, h2⟩ := l.get e'
      refine ⟨v, ?_, h2⟩
      have hb : (f == k) = false := beq_eq_false_iff_ne.mpr fun z => h z.symm
      rw [List.lookup_cons, hb]
      exact h1
theorem RepF.length {G : Hp} {m : List Addr} : ∀ {vs : List (Str × V)} {ws : List (Str × W)}, RepF K P G m vs ws → vs.length = ws.length
  | _, _, .nil => rfl
  | _, _, .cons _ l => congrArg (· + 1) l.length
theorem RepF.put {G : Hp} {m : List Addr} {f : Str} {v : V} {w : W} (r : RepW K P.core G m v w) : ∀ {vs : List (Str × V)} {ws : List (Str × W)}, RepF K P G m vs ws → RepF K P G m (L2.putF f v vs) (Py.putF f w ws)
  | _, _, .nil => .cons r .nil
  | _, _, .cons (k := k) (v := v') (vs := vs) (w := w') (ws := ws) r' l => by
    have e1 : L2.putF f v ((k, v') :: vs) = if k = f then (k, v) :: vs else (k, v') :: L2.putF f v vs := rfl
    have e2 : Py.putF f w ((k, w') :: ws) = if k = f then (k, w) :: ws else (k, w') :: Py.putF f w ws := rfl
    rw [e1, e2]
    by_cases h : k = f
    · rw [if_pos h, if_pos h]; exact .cons r l
    · rw [if_neg h, if_neg h]; exact .cons r' (l.put r)
theorem live_obj {G : Hp} {m : List Addr} {H : Hp} {st : Store} {v : V} {k : Nat} {fs : List (Str × W)} (hS : RS0 K P G m H st) (r : RepW K P G m v (.c k)) (e : st[k]? = some (.obj fs)) : ∃ a dx vs, v = .ref a ∧ m[k]? = some a ∧ G a = none ∧ H a = some (.ins P.CM dx vs) ∧ RepF K P G m vs fs := by
  obtain ⟨a, ha, rfl⟩ := r
  obtain ⟨n, dx, vs, h, l⟩ := hS.cell k a _ ha e
  exact ⟨a, dx, vs, rfl, ha, n, h, l⟩
theorem se_fld {f : Str} (hc : Cls X.K P.CM) (hn : NoAttr X.K P.CM f) (ha : SE X P Wx a fa) (hb : attributeBase a f X.env (eval a X.env) = eval a X.env := by rfl) : SE X P Wx (.Attribute a f pos) (unM (fldW f) fa) :=
  conv (pe_fld ha hb) fun σ H Q ⟨G, m, env, st, hE, hS, ho⟩ => goG hE hS ho fun G1 m1 H1 v w st1 x1 e1 s1 r1 o1 => by
    unfold fldW at o1
    split at o1
    · rename_i k
      split at o1
      · rename_i fs hk
        obtain ⟨p, dx, vs, rfl, hp, hg, hh, l⟩ := live_obj s1 r1 hk
        split at o1
        · rename_i w' hw
          obtain ⟨u, hu, ru⟩ := l.get hw
          exact ⟨p, P.CM, dx, vs, u, rfl, hh, hc, hn, hu, out_ok o1 s1 ru.ofCore⟩
        · exact o1.elim
      · exact o1.elim
    · exact o1.elim
end
end Py

namespace Py
open PySem L2 PySem.Spec PyProof.Rows
section
variable {X : Cx} {P : Pm} {Wx : WX} {a b c e : Expr} {es : List Expr} {fa fb fc : M W} {fs : M (List W)} {pos p : Pos} {K : PySem.W.Frag} {tg : Expr}
def dspC (own : Bool) (kvs : List (Str × D)) : M W := fun _ st => newDc own kvs st
/-! ### what is walked -/
/-- an iterator that gives the items xs, while the frozen part stands -/
structure Walks (K : PySem.W.Frag) (G : Hp) (J : It) (xs : List D) : Prop where
  go : ∀ (i : Nat) (H : Hp), (∀ a o, G a = some o → H a = some o) → i < xs.length → J.go i H
  stop : ∀ (i : Nat) (H : Hp), (∀ a o, G a = some o → H a = some o) → xs.length ≤ i → J.stop i H
  yld : ∀ (i : Nat) (H : Hp) (x : V) (H' : Hp) (d : D), (∀ a o, G a = some o → H a = some o) → xs[i]? = some d → J.yld i H x H' →
    (H' = H ∧ RepD K G x d) ∨ ∃ T vs ds, x = .ref T ∧ H T = none ∧ H' = upd H T (.tup vs) ∧ d = .tup ds ∧ RepL K G vs ds
theorem Walks.mono {G G' : Hp} {J : It} {xs : List D} (g : GLe G G') (h : Walks K G J xs) : Walks K G' J xs :=
  ⟨fun i H hg => h.go i H fun a o q => hg a o (g a o q), fun i H hg => h.stop i H fun a o q => hg a o (g a o q), fun i H x H' d hg e y => by
    rcases h.yld i H x H' d (fun a o q => hg a o (g a o q)) e y with ⟨e1, r⟩ | ⟨T, vs, ds, e1, e2, e3, e4, r⟩
    · exact .inl ⟨e1, r.mono g⟩
    · exact .inr ⟨T, vs, ds, e1, e2, e3, e4, r.mono g⟩⟩
abbrev SI (X : Cx) (P : Pm) (Wx : WX) (tg iter : Expr) (fi : M (List D)) : Prop := PI X tg iter (rdG X.K P Wx (fun G _ J xs => Walks X.K G J xs) fi)
theorem convI {w w' : TI} (h : PI X tg e w) (c : ∀ σ H R, w' σ H R → w σ H R) : PI X tg e w' := ⟨fun pins s σ H R I q => h.run pins s σ H R I (c σ H R q)⟩
theorem walks_list {G : Hp} {a : Addr} {vs : List V} {xs : List D} (h : G a = some (.lst vs)) (l : RepL K G vs xs) : Walks K G (Itl K a) xs := by
  refine ⟨fun i H hg hi => ?_, fun i H hg hi => ⟨vs, SqL.of (hg _ _ h), by rw [l.length]; exact hi⟩, fun i H x H' d hg e y => ?_⟩
  · have hi' : i < vs.length := by rw [l.length]; exact hi
    exact ⟨vs, vs[i], SqL.of (hg _ _ h), by simp [hi']⟩
  · obtain ⟨e1, y⟩ := y
    obtain ⟨v, hv, r⟩ := l.get e
    have := y vs (SqL.of (hg _ _ h))
    rw [hv] at this
    cases this
    exact .inl ⟨e1, r⟩
theorem walks_tup {G : Hp} {a : Addr} {vs : List V} {xs : List D} (h : SqT K G a vs) (l : RepL K G vs xs) : Walks K G (Itt K a) xs := by
  have h' : ∀ {H : Hp}, (∀ a o, G a = some o → H a = some o) → SqT K H a vs := fun hg => Evl.ex_t hg h
  refine ⟨fun i H hg hi => ?_, fun i H hg hi => ⟨vs, h' hg, by rw [l.length]; exact hi⟩, fun i H x H' d hg e y => ?_⟩
  · have hi' : i < vs.length := by rw [l.length]; exact hi
    exact ⟨vs, vs[i], h' hg, by simp [hi']⟩
  · obtain ⟨e1, y⟩ := y
    obtain ⟨v, hv, r⟩ := l.get e
    have := y vs (h' hg)
    rw [hv] at this
    cases this
    exact .inl ⟨e1, r⟩
/-- over a list or a tuple -/
theorem pi_any {l : Expr} {tl : TE} (hl : PE X l tl) : PI X tg l (fun σ H R => tl σ H fun x H1 => ∃ a, x = .ref a ∧ (((∃ xs, SqL X.K H1 a xs) ∧ R (Itl X.K a) H1) ∨ ((∃ xs, SqT X.K H1 a xs) ∧ R (Itt X.K a) H1))) := by
  refine ⟨fun pins s σ H R I h => ?_⟩
  refine thn (hl.run pins s σ H _ I h) fun v s1 ⟨x, H1, I1, r1, q1⟩ => ?_
  obtain ⟨a, e, q⟩ := q1
  subst e
  cases r1
  rcases q with ⟨⟨xs, hq⟩, q⟩ | ⟨⟨xs, hq⟩, q⟩
  · obtain ⟨its, rv, p, hz⟩ := I1.list hq
    refine wpAny_pyIter_list p.isList ?_
    refine ⟨s1.heap.objs.size, [s1.heap.objs.size], _, _, H1, rfl, I1.kept (t' := s1.toks) fun b o e => Heap.get?_push_of_some _ e, turn_list a _, ⟨_, Heap.get?_push_size _ rfl, rfl, rfl⟩, fun b hb => ?_, q⟩
    have e : b = s1.heap.objs.size := by simpa using hb
    subst e
    exact I1.fpOk (Nat.le_refl _) (I1.hok.fresh (Nat.le_refl _))
  · obtain ⟨its, rv, p, hz⟩ := I1.tuple hq
    refine wpAny_pyIter_tuple (show s1.heap.IsTuple a its.toArray from p) ?_
    refine ⟨s1.heap.objs.size, [s1.heap.objs.size], _, _, H1, rfl, I1.kept (t' := s1.toks) fun b o e => Heap.get?_push_of_some _ e, turn_tuple a _, ⟨_, Heap.get?_push_size _ rfl, rfl, rfl⟩, fun b hb => ?_, q⟩
    have e : b = s1.heap.objs.size := by simpa using hb
    subst e
    exact I1.fpOk (Nat.le_refl _) (I1.hok.fresh (Nat.le_refl _))
theorem items_cases {G : Hp} {m : List Addr} {H : Hp} {st : Store} {v : V} {w : W} {α β : Type} {Rp : Hp → List Addr → β → α → Prop} {k : List D → Store → Res α} {Q : β → Hp → Prop} {E : Exc → Hp → Prop} (hS : RS0 K P G m H st) (r : RepW K P G m v w)
    (ho : OutG K P G m H Rp ((itemsW w st).bind k) Q E) : ∃ G' xs st' a vs, v = .ref a ∧ RS0 K P G' m H st' ∧ Ext G m H G' m H ∧ RepL K G' vs xs ∧ (G' a = some (.lst vs) ∨ SqT K G' a vs) ∧ OutG K P G' m H Rp (k xs st') Q E := by
  unfold itemsW toD at ho
  cases q : asD st w with
  | none => rw [q] at ho; exact ho.elim
  | some d =>
    rw [q] at ho
    obtain ⟨G', s1, x1, rd⟩ := hS.toD r q
    cases d with
    | lst xs =>
      cases rd with
      | lst h l => exact ⟨G', xs, _, _, _, rfl, s1, x1, l, .inl h, OutG.shift ho x1⟩
    | tup xs =>
      cases rd with
      | tup h l => exact ⟨G', xs, _, _, _, rfl, s1, x1, l, .inr h, OutG.shift ho x1⟩
    | _ => exact ho.elim
theorem si_it (ha : SE X P Wx a fa) : SI X P Wx tg a (itM fa) :=
  convI (pi_any ha) fun σ H R ⟨G, m, env, st, hE, hS, ho⟩ => goG hE hS ho fun G1 m1 H1 v w st1 x1 e1 s1 r1 o1 => by
    have o1' : OutG X.K P G1 m1 H1 (fun G _ J xs => Walks X.K G J xs) ((itemsW w st1).bind fun xs s => .ok xs s) R (fun c H' => Wx (.ref (P.EC c)) none σ H') := by
      have e : ((itemsW w st1).bind fun xs s => (.ok xs s : Res (List D))) = itemsW w st1 := by cases itemsW w st1 <;> rfl
      rw [e]; exact o1
    obtain ⟨G', xs, st', q, vs, rfl, s2, x2, l, h, o2⟩ := items_cases s1 r1 o1'
    rcases h with h | h
    · exact ⟨q, rfl, .inl ⟨⟨vs, SqL.of (s2.sub _ _ h)⟩, o2 G' m1 H1 _ .refl s2 (walks_list h l)⟩⟩
    · exact ⟨q, rfl, .inr ⟨⟨vs, s2.sqT h⟩, o2 G' m1 H1 _ .refl s2 (walks_tup h l)⟩⟩
theorem si_rng (hg : Gl X "range") (hm : X.mg "range" = none) (ha : SE X P Wx a fa) (hs : starEach [a] X.env = [(false, eval a X.env)] := by rfl) (h1 : starEach [a] X.env = (false, eval a X.env) :: starEach [] X.env := by rfl) : SI X P Wx tg (.Call (.Name "range" p) [a] [] pos) (rngM fa) :=
  convI (pi_range1 hg hm (pa_cons ha pa_nil h1) hs) fun σ H R ⟨G, m, env, st, hE, hS, ho⟩ => goG hE hS ho fun G1 m1 H1 v w st1 x1 e1 s1 r1 o1 => by
    split at o1
    · rename_i n e2
      split at o1
      · rename_i hn
        replace hn := (rngOk_iff _).mp hn
        have ev := view_int s1 r1 e2
        subst ev
        refine ⟨n, rfl, by omega, by omega, o1 G1 m1 H1 _ .refl s1 ?_⟩
        refine ⟨fun i H hg hi => ?_, fun i H hg hi => ?_, fun i H x H' d hg e y => ?_⟩
        · simpa [Itr] using hi
        · simpa [Itr] using hi
        · obtain ⟨e1, e2⟩ := y
          subst e2
          rw [List.getElem?_map] at e
          cases q : (List.range n.toNat)[i]? with
          | none => rw [q] at e; cases e
          | some j =>
            rw [q] at e
            cases e
            have hj : j = i := by
              have := List.getElem?_eq_some_iff.mp q
              obtain ⟨h1, h2⟩ := this
              simp at h2
              exact h2.symm
            subst hj
            refine .inl ⟨e1, ?_⟩
            have : (0 : Int) + (j : Int) = (j : Int) := by omega
            rw [this]
            exact .int _
      · exact o1.elim
    · exact o1.elim
theorem zip_get {xs ys : List D} {i : Nat} {d : D} (e : ((xs.zip ys).map fun p => D.tup [p.1, p.2])[i]? = some d) : ∃ x y, xs[i]? = some x ∧ ys[i]? = some y ∧ d = .tup [x, y] := by
  rw [List.getElem?_map] at e
  cases q : (xs.zip ys)[i]? with
  | none => rw [q] at e; cases e
  | some p =>
    rw [q] at e
    cases e
    obtain ⟨h1, h2⟩ := List.getElem?_zip_eq_some.mp q
    exact ⟨p.1, p.2, h1, h2, rfl⟩
theorem walks_zipL {G : Hp} {a b : Addr} {vs us : List V} {xs ys : List D} (h : G a = some (.lst vs)) (l : RepL K G vs xs) (h' : G b = some (.lst us)) (l' : RepL K G us ys) : Walks K G (Itz K a b) ((xs.zip ys).map fun p => .tup [p.1, p.2]) := by
  refine ⟨fun i H hg hi => ?_, fun i H hg hi => ⟨vs, us, SqL.of (hg _ _ h), SqL.of (hg _ _ h'), ?_⟩, fun i H x H' d hg e y => ?_⟩
  · simp only [List.length_map, List.length_zip] at hi
    have h1 : i < vs.length := by rw [l.length]; omega
    have h2 : i < us.length := by rw [l'.length]; omega
    exact ⟨vs, us, vs[i], us[i], SqL.of (hg _ _ h), SqL.of (hg _ _ h'), by simp [h1], by simp [h2]⟩
  · simp only [List.length_map, List.length_zip] at hi
    rw [l.length, l'.length]
    omega
  · obtain ⟨T, u, w, e1, e2, e3, y1, y2⟩ := y
    obtain ⟨dx, dy, q1, q2, rfl⟩ := zip_get e
    obtain ⟨v1, hv1, r1⟩ := l.get q1
    obtain ⟨v2, hv2, r2⟩ := l'.get q2
    have z1 := y1 vs (SqL.of (hg _ _ h))
    have z2 := y2 us (SqL.of (hg _ _ h'))
    rw [hv1] at z1
    rw [hv2] at z2
    cases z1; cases z2
    exact .inr ⟨T, [u, w], [dx, dy], e1, e2, e3, rfl, .cons r1 (.cons r2 .nil)⟩
theorem walks_zipT {G : Hp} {a b : Addr} {vs us : List V} {xs ys : List D} (h : SqT K G a vs) (l : RepL K G vs xs) (h' : SqT K G b us) (l' : RepL K G us ys) : Walks K G (RZ.ItzT K a b) ((xs.zip ys).map fun p => .tup [p.1, p.2]) := by
  have k : ∀ {H : Hp}, (∀ a o, G a = some o → H a = some o) → SqT K H a vs := fun hg => Evl.ex_t hg h
  have k' : ∀ {H : Hp}, (∀ a o, G a = some o → H a = some o) → SqT K H b us := fun hg => Evl.ex_t hg h'
  refine ⟨fun i H hg hi => ?_, fun i H hg hi => ⟨vs, us, k hg, k' hg, ?_⟩, fun i H x H' d hg e y => ?_⟩
  · simp only [List.length_map, List.length_zip] at hi
    have h1 : i < vs.length := by rw [l.length]; omega
    have h2 : i < us.length := by rw [l'.length]; omega
    exact ⟨vs, us, vs[i], us[i], k hg, k' hg, by simp [h1], by simp [h2]⟩
  · simp only [List.length_map, List.length_zip] at hi
    rw [l.length, l'.length]
    omega
  · obtain ⟨T, u, w, e1, e2, e3, y1, y2⟩ := y
    obtain ⟨dx, dy, q1, q2, rfl⟩ := zip_get e
    obtain ⟨v1, hv1, r1⟩ := l.get q1
    obtain ⟨v2, hv2, r2⟩ := l'.get q2
    have z1 := y1 vs (k hg)
    have z2 := y2 us (k' hg)
    rw [hv1] at z1
    rw [hv2] at z2
    cases z1; cases z2
    exact .inr ⟨T, [u, w], [dx, dy], e1, e2, e3, rfl, .cons r1 (.cons r2 .nil)⟩
/-- zip of two lists, of two tuples -/
def zipM2 (a b : M W) : M (List D) := fun env st => (a env st).bind fun x s1 => (b env s1).bind fun y s2 => match asD s2 x, asD s2 y with
  | some (.lst _), some (.lst _) => (itemsW x s2).bind fun xs s3 => (itemsW y s3).bind fun ys s4 => .ok ((xs.zip ys).map fun p => .tup [p.1, p.2]) s4
  | some (.tup xs), some (.tup ys) => .ok ((xs.zip ys).map fun p => .tup [p.1, p.2]) s2
  | _, _ => .stuck
theorem items_lst {G : Hp} {m : List Addr} {H : Hp} {st : Store} {v : V} {w : W} {xs : List D} (hS : RS0 K P G m H st) (r : RepW K P G m v w) (e : asD st w = some (.lst xs)) :
    itemsW w st = .ok xs (frzW w (.lst xs) st) ∧ ∃ G' a vs, v = .ref a ∧ RS0 K P G' m H (frzW w (.lst xs) st) ∧ Ext G m H G' m H ∧ RepL K G' vs xs ∧ G' a = some (.lst vs) := by
  refine ⟨by unfold itemsW toD; rw [e]; rfl, ?_⟩
  obtain ⟨G', s1, x1, rd⟩ := hS.toD r e
  cases rd with
  | lst h l => exact ⟨G', _, _, rfl, s1, x1, l, h⟩
theorem asD_frz {st : Store} {w w' : W} {d : D} {xs : List D} (e : asD st w = some (.lst xs)) (h : asD st w' = some d) : asD (frzW w (.lst xs) st) w' = some d := by
  cases w with
  | d x => exact h
  | exc => exact h
  | c k =>
    cases w' with
    | d x => exact h
    | exc => exact h
    | c j =>
      show asD (st.set k (.frz (.lst xs))) (.c j) = some d
      by_cases hj : k = j
      · subst hj
        rw [e] at h
        cases h
        have hk : k < st.length := by
          cases q : st[k]? with
          | none => simp only [asD, q] at e; cases e
          | some c => exact (List.getElem?_eq_some_iff.mp q).1
        simp only [asD, List.getElem?_set_self hk]
      · simp only [asD, List.getElem?_set_ne hj]
        exact h
theorem si_zip {elts : List Expr} {kk : Nat} {tpos : Pos} (hg : Gl X "zip") (hm : X.mg "zip" = none) (ha : SE X P Wx a fa) (hb : SE X P Wx b fb)
    (hs : starEach [a, b] X.env = (false, eval a X.env) :: starEach [b] X.env := by rfl) (hs2 : starEach [b] X.env = (false, eval b X.env) :: starEach [] X.env := by rfl) (hpl : (backTo pos (starEach [b] X.env)).any (·.1) = false := by rfl) :
    SI X P Wx (.Tuple elts kk tpos) (.Call (.Name "zip" p) [a, b] [] pos) (zipM2 fa fb) :=
  convI (RZ.pi_zipA hg hm (pa_cons ha (pa_cons hb pa_nil hs2) hs) hs hpl) fun σ H R ⟨G, m, env, st, hE, hS, ho⟩ => goG hE hS ho fun G1 m1 H1 v w st1 x1 e1 s1 r1 o1 => goG e1 s1 o1 fun G2 m2 H2 v2 w2 st2 x2 e2 s2 r2 o2 => by
    have r1' := RepW.mono x2.g x2.pre r1
    split at o2
    · rename_i xs ys q1 q2
      obtain ⟨i1, G3, p1, vs, rfl, s3, x3, l1, h1⟩ := items_lst s2 r1' q1
      obtain ⟨i2, G4, p2, us, rfl, s4, x4, l2, h2⟩ := items_lst s3 (RepW.mono x3.g x3.pre r2) (asD_frz q1 q2)
      rw [i1, Res.bind_ok, i2, Res.bind_ok] at o2
      exact ⟨p1, p2, vs, us, rfl, .inl ⟨SqL.of (s4.sub _ _ (x4.g _ _ h1)), SqL.of (s4.sub _ _ h2), o2 G4 m2 H2 _ (x3.trans x4) s4 (walks_zipL (x4.g _ _ h1) (l1.mono x4.g) h2 l2)⟩⟩
    · rename_i xs ys q1 q2
      obtain ⟨p1, vs, rfl, h1, l1⟩ := view_tup s2 r1' q1
      obtain ⟨p2, us, rfl, h2, l2⟩ := view_tup s2 r2 q2
      exact ⟨p1, p2, vs, us, rfl, .inr ⟨s2.sqT h1, s2.sqT h2, o2 G2 m2 H2 _ .refl s2 (walks_zipT h1 l1 h2 l2)⟩⟩
    · exact o2.elim

theorem REnv.setW {G : Hp} {m : List Addr} {σ : L2.St} {env : Env} {i : Nat} {v : V} {w : W} (h : REnv K P G m σ env) (r : RepW K P G m v w) : REnv K P G m ((σ.set i none).set i (some v)) (env.set i (some w)) := by
  rw [List.set_set]
  exact h.set r
/-- the list that grows -/
structure Grows (K : PySem.W.Frag) (G0 : Hp) (m0 : List Addr) (H0 : Hp) (L : Addr) (G : Hp) (m : List Addr) (H : Hp) (acc : List D) : Prop where
  ext : Ext G0 m0 H0 G m H
  nG : G L = none
  nm : L ∉ m
  at_ : ∃ vs, H L = some (.lst vs) ∧ RepL K G vs acc
theorem Grows.go {G0 G G' H0 H H' : Hp} {m0 m m' : List Addr} {L : Addr} {acc : List D} (h : Grows K G0 m0 H0 L G m H acc) (x : Ext G m H G' m' H') : Grows K G0 m0 H0 L G' m' H' acc := by
  obtain ⟨vs, e, l⟩ := h.at_
  have hm' : L ∉ m' := fun hm => by
    rcases x.new L hm with q | q
    · exact h.nm q
    · rw [q] at e; cases e
  refine ⟨h.ext.trans x, ?_, hm', vs, x.fr L _ e h.nm, l.mono x.g⟩
  cases q : G' L with
  | none => rfl
  | some o =>
    rcases x.gn L (by rw [q]; simp) with z | z | z
    · exact absurd h.nG z
    · exact absurd z hm'
    · rw [z] at e; cases e
/-- one item more -/
theorem Grows.more {G0 G H0 H : Hp} {m0 m : List Addr} {st : Store} {L : Addr} {acc : List D} {d : D} {vs : List V} {v : V} (h : Grows K G0 m0 H0 L G m H acc) (n0 : H0 L = none) (hS : RS0 K P G m H st) (e : H L = some (.lst vs)) (l : RepL K G vs acc) (r : RepD K G v d) :
    RS0 K P G m (upd H L (.lst (vs ++ [v]))) st ∧ Grows K G0 m0 H0 L G m (upd H L (.lst (vs ++ [v]))) (acc ++ [d]) := by
  have oth : ∀ b u, b ≠ L → H b = some u → (upd H L (.lst (vs ++ [v]))) b = some u := fun b u hb hu => by rw [upd_ne hb]; exact hu
  refine ⟨⟨fun b u hb => oth b u (ne_of_none hb h.nG) (hS.sub b u hb), hS.len, hS.nd, fun a ha => ?_, fun k a c ha hc => ?_⟩, ⟨⟨h.ext.g, h.ext.pre, h.ext.new, fun b u hb hm => ?_, fun b hb => ?_, h.ext.gn⟩, h.nG, h.nm, _, upd_same, l.append (.one r)⟩⟩
  · rw [upd_ne (fun z => h.nm (by rw [← z]; exact ha))]; exact hS.inH a ha
  · have hne : a ≠ L := fun z => h.nm (by rw [← z]; exact List.mem_of_getElem? ha)
    exact (hS.cell k a c ha hc).mono (GLe.refl G) (List.prefix_refl m) (fun u hu => oth a u hne hu) fun n => n
  · exact oth b u (ne_of_none hb n0) (h.ext.fr b u hb hm)
  · by_cases z : b = L
    · subst z; exact absurd n0 hb
    · rw [upd_ne z]; exact h.ext.th b hb
/-- the finished list: a new live cell, or frozen -/
theorem Grows.done {own : Bool} {G0 G H0 H : Hp} {m0 m : List Addr} {st : Store} {L : Addr} {acc : List D} {Q : VK} {E : Exc → Hp → Prop} (h : Grows K G0 m0 H0 L G m H acc) (n0 : H0 L = none) (hS : RS0 K P G m H st)
    (ho : OutG K P G0 m0 H0 (RepW K P) (newL own acc st) Q E) : Q (.ref L) H := by
  obtain ⟨vs, e, l⟩ := h.at_
  unfold newL at ho
  split at ho
  · split at ho
    · -- live
      have ext : Ext G0 m0 H0 G (m ++ [L]) H := ⟨h.ext.g, h.ext.pre.trans (List.prefix_append m [L]), fun b hb => by
        rcases List.mem_append.mp hb with q | q
        · exact h.ext.new b q
        · rw [List.mem_singleton] at q; subst q; exact .inr n0, h.ext.fr, h.ext.th, fun b hb => by
        rcases h.ext.gn b hb with q | q | q
        · exact .inl q
        · exact .inr (.inl (List.mem_append_left _ q))
        · exact .inr (.inr q)⟩
      refine ho G (m ++ [L]) H (.ref L) ext ⟨hS.sub, by simp [hS.len], ?_, fun a ha => ?_, fun k a c ha hc => ?_⟩ ⟨L, by rw [← hS.len, List.getElem?_append_right (Nat.le_refl _)]; simp, rfl⟩
      · rw [List.nodup_append]
        refine ⟨hS.nd, by simp, fun a ha b hb => ?_⟩
        rw [List.mem_singleton] at hb
        subst hb
        intro z
        subst z
        exact h.nm ha
      · rcases List.mem_append.mp ha with q | q
        · exact hS.inH a q
        · rw [List.mem_singleton] at q; subst q; rw [e]; simp
      · by_cases hk : k < m.length
        · rw [List.getElem?_append_left hk] at ha
          rw [List.getElem?_append_left (by rw [← hS.len]; exact hk)] at hc
          exact (hS.cell k a c ha hc).mono (GLe.refl G) (List.prefix_append m [L]) (fun u hu => hu) fun n => n
        · have hk' : k = m.length := by
            have := (List.getElem?_eq_some_iff.mp ha).1
            rw [List.length_append, List.length_singleton] at this
            omega
          subst hk'
          rw [List.getElem?_append_right (Nat.le_refl _)] at ha
          rw [hS.len, List.getElem?_append_right (Nat.le_refl _)] at hc
          simp at ha hc
          subst ha hc
          exact ⟨h.nG, vs, e, l⟩
    · have g : GLe G (upd G L (.lst vs)) := fun b u hb => by rw [upd_ne (ne_of_none hb h.nG)]; exact hb
      have ext : Ext G0 m0 H0 (upd G L (.lst vs)) m H := ⟨h.ext.g.trans g, h.ext.pre, h.ext.new, h.ext.fr, h.ext.th, fun b hb => by
        by_cases z : b = L
        · subst z; exact .inr (.inr n0)
        · rw [upd_ne z] at hb; exact h.ext.gn b hb⟩
      refine ho (upd G L (.lst vs)) m H (.ref L) ext ⟨fun b u hb => ?_, hS.len, hS.nd, hS.inH, fun k a c ha hc => ?_⟩ (.lst upd_same (l.mono g))
      · by_cases z : b = L
        · subst z; rw [upd_same] at hb; cases hb; exact e
        · rw [upd_ne z] at hb; exact hS.sub b u hb
      · have hne : a ≠ L := fun z => h.nm (by rw [← z]; exact List.mem_of_getElem? ha)
        exact (hS.cell k a c ha hc).mono g (List.prefix_refl m) (fun u hu => hu) fun n => by rw [upd_ne hne]; exact n
  · exact ho.elim
/-- no error leaves a comprehension -/
def noX : WX := fun _ _ _ _ => False
theorem lc_ok {own : Bool} {fi : M (List D)} {i : Nat} {fc : M Bool} {fe : M W} {σ : L2.St} {H : Hp} {Q : VK} (h : rE K P Wx (lcM own fi i fc fe) σ H Q) :
    tLc (rdG K P Wx (fun G _ J xs => Walks K G J xs) fi) (gName i) (rT K P noX fc) (rE K P noX fe) [i] σ H Q := by
  obtain ⟨G, m, env, st, hE, hS, ho⟩ := h
  refine goG hE hS ho fun G1 m1 H1 J xs st1 x1 e1 s1 w1 o1 => ?_
  intro L hL
  -- the invariant: the rest of the loop gives what is wanted
  refine ⟨fun j n H' => n = xs.length - j ∧ j ≤ xs.length ∧ ∃ G2 m2 st2 acc, Grows K G1 m1 H1 L G2 m2 H' acc ∧ RS0 K P G2 m2 H' st2 ∧
    OutG K P G1 m1 H1 (RepW K P) ((lcLoop i fc fe (xs.drop j) acc env st2).bind fun ys s2 => newL own ys s2) Q (fun _ _ => True), ⟨xs.length, by simp, Nat.zero_le _, G1, m1, st1, [], ?_, ?_, ?_⟩, ?_⟩
  · obtain ⟨s2, x2⟩ := s1.grow (o := .lst []) hL
    exact ⟨x2, s1.freshG hL, s1.fresh_not_mem hL, [], upd_same, .nil⟩
  · exact (s1.grow hL).1
  · rw [List.drop_zero]
    cases q : (lcLoop i fc fe xs [] env st1).bind fun ys s2 => newL own ys s2 with
    | ok a s => rw [q] at o1; exact o1
    | err c s => exact fun _ _ _ _ _ => trivial
    | stuck => rw [q] at o1; exact o1
  · rintro j n H' ⟨rfl, hj, G2, m2, st2, acc, gr, s2, o2⟩
    have hsub : ∀ a o, G1 a = some o → H' a = some o := fun a o q => s2.sub a o (gr.ext.g a o q)
    by_cases hlt : j < xs.length
    · have hd : xs.drop j = xs[j] :: xs.drop (j + 1) := List.drop_eq_getElem_cons hlt
      rw [hd] at o2
      refine .inr ⟨w1.go j H' hsub hlt, fun H'' => j + 1 ≤ xs.length ∧ ∃ G2 m2 st2 acc, Grows K G1 m1 H1 L G2 m2 H'' acc ∧ RS0 K P G2 m2 H'' st2 ∧
        OutG K P G1 m1 H1 (RepW K P) ((lcLoop i fc fe (xs.drop (j + 1)) acc env st2).bind fun ys s2 => newL own ys s2) Q (fun _ _ => True), fun H'' q => ⟨xs.length - (j + 1), by omega, rfl, q⟩, fun x H'' hy => ?_⟩
      -- the item: frozen data
      obtain ⟨G3, s3, gr3, rx⟩ : ∃ G3, RS0 K P G3 m2 H'' st2 ∧ Grows K G1 m1 H1 L G3 m2 H'' acc ∧ RepD K G3 x xs[j] := by
        rcases w1.yld j H' x H'' xs[j] hsub (List.getElem?_eq_getElem hlt) hy with ⟨rfl, r⟩ | ⟨T, vs, ds, rfl, hT, rfl, ed, r⟩
        · exact ⟨G2, s2, gr, r.mono gr.ext.g⟩
        · obtain ⟨s3, x3⟩ := s2.newD (o := .tup vs) hT
          refine ⟨_, s3, gr.go x3, ?_⟩
          rw [ed]
          exact .tup (SqT.of upd_same) (r.mono (gr.ext.g.trans x3.g))
      have e3 : REnv K P G3 m2 ((σ.set i none).set i (some x)) (env.set i (some (.d xs[j]))) := (e1.mono gr3.ext.g gr3.ext.pre).setW rx
      have o3 : OutG K P G3 m2 H'' (RepW K P) (((noErr (fc (env.set i (some (.d xs[j]))) st2)).bind fun b s1 =>
        if b = true then (noErr (fe (env.set i (some (.d xs[j]))) s1)).bind fun w s2 => (toD w s2).bind fun d s3 => if acc.length < sizeLine then lcLoop i fc fe (xs.drop (j + 1)) (acc ++ [d]) env s3 else .stuck
        else lcLoop i fc fe (xs.drop (j + 1)) acc env s1).bind fun ys s2 => newL own ys s2) Q (fun _ _ => True) := OutG.shift o2 gr3.ext
      refine ⟨by show ((σ.set i none).set i (some x)).set i none = σ.set i none; rw [List.set_set, List.set_set], ?_⟩
      -- back to the start's point of view
      have back : ∀ {r : Res W}, OutG K P G3 m2 H'' (RepW K P) r Q (fun _ _ => True) → (r = (lcLoop i fc fe (xs.drop j) acc env st2).bind fun ys s2 => newL own ys s2) → OutG K P G1 m1 H1 (RepW K P) r Q (fun _ _ => True) := fun {r} _ e => by
        rw [e, hd]; exact o2
      cases q : fc (env.set i (some (.d xs[j]))) st2 with
      | err c s => rw [q] at o3; exact o3.elim
      | stuck => rw [q] at o3; exact o3.elim
      | ok b st3 =>
        refine ⟨G3, m2, _, st2, e3, s3, ?_⟩
        rw [q]
        intro G4 m4 H4 b' x4 s4 eb
        have eb' : b' = b := eb
        subst eb'
        rw [q, noErr_ok, Res.bind_ok] at o3
        have o2' : OutG K P G1 m1 H1 (RepW K P) ((if b' = true then (noErr (fe (env.set i (some (.d xs[j]))) st3)).bind fun w s2 => (toD w s2).bind fun d s3 => if acc.length < sizeLine then lcLoop i fc fe (xs.drop (j + 1)) (acc ++ [d]) env s3 else .stuck
          else lcLoop i fc fe (xs.drop (j + 1)) acc env st3).bind fun ys s2 => newL own ys s2) Q (fun _ _ => True) := by
          have z := o2
          unfold lcLoop at z
          rw [q] at z
          exact z
        cases b' with
        | false => exact ⟨hlt, G4, m4, st3, acc, gr3.go x4, s4, o2'⟩
        | true =>
          rw [if_pos rfl] at o2' ⊢
          cases q2 : fe (env.set i (some (.d xs[j]))) st3 with
          | err c s => rw [q2] at o2'; exact o2'.elim
          | stuck => rw [q2] at o2'; exact o2'.elim
          | ok w st4 =>
            refine ⟨G4, m4, _, st3, e3.mono x4.g x4.pre, s4, ?_⟩
            rw [q2]
            intro G5 m5 H5 y x5 s5 ry
            rw [q2, noErr_ok, Res.bind_ok] at o2'
            unfold toD at o2'
            cases q3 : asD st4 w with
            | none => rw [q3] at o2'; exact o2'.elim
            | some d =>
              rw [q3] at o2'
              simp only [Res.bind_ok] at o2'
              obtain ⟨G6, s6, x6, rd⟩ := s5.toD ry q3
              have gr6 := ((gr3.go x4).go x5).go x6
              obtain ⟨vs, ev, l⟩ := gr6.at_
              by_cases hz : acc.length < sizeLine
              · rw [if_pos hz] at o2'
                obtain ⟨s7, gr7⟩ := gr6.more hL s6 ev l rd
                exact ⟨vs, ev, by rw [l.length]; exact hz, hlt, G6, m5, _, acc ++ [d], gr7, s7, o2'⟩
              · rw [if_neg hz] at o2'; exact o2'.elim
    · have hj' : j = xs.length := by omega
      subst hj'
      rw [List.drop_length] at o2
      exact .inl ⟨w1.stop _ H' hsub (Nat.le_refl _), gr.done hL s2 o2⟩
end
end Py

namespace Py
open PySem L2 PySem.Spec PyProof.Rows
section
variable {X : Cx} {P : Pm} {Wx : WX} {a b c e : Expr} {es : List Expr} {fa fb fc fe : M W} {fs : M (List W)} {pos p : Pos} {K : PySem.W.Frag} {tg iter elt : Expr} {ifs : List Expr} {scope : Scope} {fi : M (List D)} {ft : M Bool}
theorem spts_nil : PTs X [] (rT X.K P noX yesT) := ⟨fun pins s σ H Q I ⟨G, m, env, st, hE, hS, ho⟩ => pts_nil.run pins s σ H Q I (ho G m H true .refl hS rfl)⟩
theorem se_lc (own : Bool) {x : Str} {i : Nat} (hc : X.calm = true) (hN : X.N.Nodup) (hi : SI X P Wx tg iter fi) (ok : BlkOk X.N X.env.scope scope [(x, i)])
    (hg : ∀ (s : Shared) (H : Hp) (C : Addr) (cl : List (Str × Addr)) (fp : List Addr), PG (X.blk s H scope (compEnvC scope cl C X.env) fp) tg (gName i))
    (ht : ∀ (s : Shared) (H : Hp) (C : Addr) (cl : List (Str × Addr)) (fp : List Addr), PTs (X.blk s H scope (compEnvC scope cl C X.env) fp) ifs (rT X.K P noX ft))
    (he : ∀ (s : Shared) (H : Hp) (C : Addr) (cl : List (Str × Addr)) (fp : List Addr), SE (X.blk s H scope (compEnvC scope cl C X.env) fp) P noX elt fe) (hs : ∀ x, foldedSetIterable iter X.env x = pure x := by intro _; rfl) :
    SE X P Wx (.ListComp elt [⟨tg, iter, ifs, 0⟩] scope pos) (lcM own fi i ft fe) :=
  conv (pe_lc (own := [(x, i)]) hc hN hi ok hg ht he hs) fun σ H Q h => lc_ok h

/-! ### statements -/
abbrev SS (X : Cx) (P : Pm) (Wx : WX) (s : Stmt) (f : MS) : Prop := PS X s (rS X.K P Wx f)
abbrev SSs (X : Cx) (P : Pm) (Wx : WX) (s : List Stmt) (f : MS) : Prop := PSs X s (rS X.K P Wx f)
theorem convS {s : Stmt} {t t' : TS} (h : PS X s t) (c : ∀ D σ H, t' D σ H → t D σ H) : PS X s t' := ⟨fun pins s σ H D I q => h.run pins s σ H D I (c D σ H q)⟩
theorem convSs {s : List Stmt} {t t' : TS} (h : PSs X s t) (c : ∀ D σ H, t' D σ H → t D σ H) : PSs X s t' := ⟨fun pins s σ H D I q => h.run pins s σ H D I (c D σ H q)⟩
variable {s : Stmt} {rest body : List Stmt} {f g : MS}
theorem sss_nil : SSs X P Wx [] passS := convSs pss_nil fun D σ H ⟨G, m, env, st, hE, hS, ho⟩ => ho G m σ H .refl hE hS
theorem seq_ok {G : Hp} {m : List Addr} {H : Hp} {st : Store} {σ : L2.St} {env : Env} {D : Ends} (hE : REnv K P G m σ env) (hS : RS0 K P G m H st) (ho : OutS K P Wx G m H (seqM f g env st) D) : tSeq (rS K P Wx f) (rS K P Wx g) D σ H := by
  refine ⟨G, m, env, st, hE, hS, ?_⟩
  unfold seqM at ho
  cases q : f env st with
  | nx env' st' =>
    rw [q] at ho
    exact fun G' m' σ' H' x e s => ⟨G', m', env', st', e, s, OutS.shift ho x⟩
  | ret w st' => rw [q] at ho; exact ho
  | err c env' st' => rw [q] at ho; exact ho
  | stuck => rw [q] at ho; exact ho
theorem sss_cons (h1 : SS X P Wx s f) (h2 : SSs X P Wx rest g) : SSs X P Wx (s :: rest) (seqM f g) := convSs (pss_cons h1 h2) fun D σ H ⟨G, m, env, st, hE, hS, ho⟩ => seq_ok hE hS ho
theorem sss_one (h1 : SS X P Wx s f) : SSs X P Wx [s] f := pss_one h1
theorem ss_exp (he : SE X P Wx e fe) (hs : swapsWith e none pos.line X.env = pure false := by rfl) : SS X P Wx (.Expr e pos) (expM fe) :=
  convS (ps_expr he hs) fun D σ H ⟨G, m, env, st, hE, hS, ho⟩ => goS hE hS ho fun G1 m1 H1 v w st1 x1 e1 s1 r1 o1 => o1 G1 m1 σ H1 .refl e1 s1
theorem ss_ret (he : SE X P Wx e fe) : SS X P Wx (.Return (some e) pos) (retM fe) :=
  convS (ps_ret he) fun D σ H ⟨G, m, env, st, hE, hS, ho⟩ => goS hE hS ho fun G1 m1 H1 v w st1 x1 e1 s1 r1 o1 => o1 G1 m1 H1 v .refl s1 r1
theorem ss_retN : SS X P Wx (.Return none pos) retN := convS ps_retN fun D σ H ⟨G, m, env, st, hE, hS, ho⟩ => ho G m H .non .refl hS .non
theorem ss_if {tb fb' : List Stmt} (hc : ST X P Wx c ft) (ha : SSs X P Wx tb f) (hb : SSs X P Wx fb' g) : SS X P Wx (.If c tb fb' pos) (ifM ft f g) :=
  convS (ps_if hc ha hb) fun D σ H ⟨G, m, env, st, hE, hS, ho⟩ => goS hE hS ho fun G1 m1 H1 v w st1 x1 e1 s1 r1 o1 => by
    have r1' : v = w := r1
    subst r1'
    cases v with
    | true => exact ⟨G1, m1, env, st1, e1, s1, o1⟩
    | false => exact ⟨G1, m1, env, st1, e1, s1, o1⟩
theorem ss_asg {i : Nat} {x : Str} {p' : Pos} (hN : X.N.Nodup) (hi : X.N[i]? = some x) (hx : Loc X.env.scope x) (he : SE X P Wx e fe) (hs : swapsWith e (some (.Name x p')) pos.line X.env = pure false := by rfl)
    (hf : X.fn x = true ∨ X.env.scope.names.lookup x = some .local := by first | exact .inl rfl | exact .inr rfl | assumption) : SS X P Wx (.Assign [.Name x p'] e pos) (asgM i fe) :=
  convS (ps_set hN hi hx he hs hf) fun D σ H ⟨G, m, env, st, hE, hS, ho⟩ => goS hE hS ho fun G1 m1 H1 v w st1 x1 e1 s1 r1 o1 => o1 G1 m1 _ H1 .refl (e1.set r1) s1
theorem ss_asgLc (own : Bool) {x y : Str} {i iy : Nat} {py : Pos} {spos : Pos} (hc : X.calm = true) (hN : X.N.Nodup) (hy : X.N[iy]? = some y) (hyl : X.env.scope.names.lookup y = some .local)
    (hsw : swapsWith (.ListComp elt [⟨tg, iter, ifs, 0⟩] scope pos) (some (.Name y py)) spos.line X.env = pure true) (hi : SI X P Wx tg iter fi) (ok : BlkOk X.N X.env.scope scope [(x, i)])
    (hg : ∀ (s : Shared) (H : Hp) (C : Addr) (cl : List (Str × Addr)) (fp : List Addr), PG (X.blk s H scope (compEnvC scope cl C X.env) fp) tg (gName i))
    (ht : ∀ (s : Shared) (H : Hp) (C : Addr) (cl : List (Str × Addr)) (fp : List Addr), PTs (X.blk s H scope (compEnvC scope cl C X.env) fp) ifs (rT X.K P noX ft))
    (he : ∀ (s : Shared) (H : Hp) (C : Addr) (cl : List (Str × Addr)) (fp : List Addr), SE (X.blk s H scope (compEnvC scope cl C X.env) fp) P noX elt fe) (hs : ∀ x, foldedSetIterable iter X.env x = pure x := by intro _; rfl) :
    SS X P Wx (.Assign [.Name y py] (.ListComp elt [⟨tg, iter, ifs, 0⟩] scope pos) spos) (asgM iy (lcM own fi i ft fe)) :=
  convS (ps_setLc (own := [(x, i)]) hc hN hy hyl hsw hi ok hg ht he hs) fun D σ H ⟨G, m, env, st, hE, hS, ho⟩ =>
    lc_ok (Wx := Wx) (goS hE hS ho fun G1 m1 H1 v w st1 x1 e1 s1 r1 o1 => o1 G1 m1 _ H1 .refl (e1.set r1) s1)
/-- targets: names -/
inductive STg (X : Cx) : List Expr → List Nat → Prop
  | nil : STg X [] []
  | cons {x : Str} {i : Nat} {pp : Pos} {ts : List Expr} {is : List Nat} (hi : X.N[i]? = some x) (hx : Loc X.env.scope x) (hf : X.fn x = true ∨ X.env.scope.names.lookup x = some .local) (hs : (assignEach (.Name x pp :: ts) X.env).map (·.2) = assign (.Name x pp) X.env :: (assignEach ts X.env).map (·.2)) (r : STg X ts is) : STg X (.Name x pp :: ts) (i :: is)
def gNames : List Nat → TGs
  | [] => gNil
  | i :: is => gCons (gName i) (gNames is)
theorem STg.pgs (hN : X.N.Nodup) {ts : List Expr} {is : List Nat} (h : STg X ts is) : PGs X ts (gNames is) := by
  induction h with
  | nil => exact pgs_nil
  | cons hi hx hf hs r ih => exact pgs_cons (pg_name hN hi hx hf) ih hs
theorem sets_ok {G : Hp} {m : List Addr} {H : Hp} {Q : L2.St → Hp → Prop} : ∀ {is : List Nat} {vs : List V} {xs : List D} {σ : L2.St} {env env' : Env}, REnv K P G m σ env → RepL K G vs xs → sets is xs env = some env' → (∀ σ', REnv K P G m σ' env' → Q σ' H) → gNames is vs σ H Q
  | [], _, _, σ, env, env', hE, .nil, e, k => ⟨rfl, k σ (by cases e; exact hE)⟩
  | [], _, _, _, _, _, _, .cons _ _, e, _ => by cases e
  | _ :: _, _, _, _, _, _, _, .nil, e, _ => by cases e
  | i :: is, _, _, σ, env, env', hE, .cons (d := d) r l, e, k => ⟨_, _, rfl, sets_ok (hE.set (w := .d d) r) l e k⟩
theorem ss_asgT {ts : List Expr} {is : List Nat} {k : Nat} {pt : Pos} (hc : X.calm = true) (hN : X.N.Nodup) (ht : STg X ts is) (he : SE X P Wx e fe) (hn : (assignEach ts X.env).length = is.length := by rfl) (hst : (assignEach ts X.env).findIdx? (·.1) = none := by rfl)
    (hs : swapsWithSole [.Tuple ts k pt] e pos.line X.env = pure false := by rfl) (hw : swappedStores [.Tuple ts k pt] e X.env = pure none := by rfl)
    (h1 : (assignEach [.Tuple ts k pt] X.env).map (·.2) = [assign (.Tuple ts k pt) X.env] := by rfl) : SS X P Wx (.Assign [.Tuple ts k pt] e pos) (asgTM is fe) :=
  convS (ps_asg he (pg_tup hc (ht.pgs hN) hn hst) hs hw h1) fun D σ H ⟨G, m, env, st, hE, hS, ho⟩ => goS hE hS ho fun G1 m1 H1 v w st1 x1 e1 s1 r1 o1 => by
    split at o1
    · rename_i xs e2
      obtain ⟨q, vs, rfl, hq, l⟩ := view_tup s1 r1 e2
      split at o1
      · rename_i env' he'
        have hlen : ∀ {is : List Nat} {xs : List Py.D} {env env' : Env}, sets is xs env = some env' → xs.length = is.length := by
          intro is
          induction is with
          | nil => intro xs env env' h; cases xs with
            | nil => rfl
            | cons _ _ => cases h
          | cons i is ih => intro xs env env' h; cases xs with
            | nil => cases h
            | cons x xs => exact congrArg (· + 1) (ih h)
        exact ⟨q, vs, rfl, s1.sqT hq, by rw [l.length]; exact hlen he', sets_ok e1 l he' fun σ' e3 => o1 G1 m1 σ' H1 .refl e3 s1⟩
      · exact o1.elim
    · exact o1.elim

theorem toDS_cases {α : Type} {G : Hp} {m : List Addr} {H : Hp} {st : Store} {v : V} {w : W} {env : Env} {k : D → Store → RS} {D : Ends} (hS : RS0 K P G m H st) (r : RepW K P G m v w)
    (ho : OutS K P Wx G m H (bindS (toD w st) env k) D) : ∃ G' d st', RS0 K P G' m H st' ∧ Ext G m H G' m H ∧ RepD K G' v d ∧ OutS K P Wx G' m H (k d st') D := by
  unfold toD at ho
  cases q : asD st w with
  | none => rw [q] at ho; exact ho.elim
  | some d =>
    rw [q] at ho
    obtain ⟨G', s1, x1, rd⟩ := hS.toD r q
    exact ⟨G', d, _, s1, x1, rd, OutS.shift ho x1⟩
/-- x[i] = v, a list -/
theorem ss_setL {q : Pos} (ha : SE X P Wx a fa) (hb : SE X P Wx b fb) (he : SE X P Wx e fe)
    (hs : swapsWithSole [.Subscript a b q] e pos.line X.env = pure false := by rfl) (hw : swappedStores [.Subscript a b q] e X.env = pure none := by rfl) (h1 : (assignEach [.Subscript a b q] X.env).map (·.2) = [assign (.Subscript a b q) X.env] := by rfl)
    (hu : ∀ v, assign (.Subscript a b q) X.env v = (do
      let ov ← holding [v] (eval a X.env)
      let iv ← holding [v, ov] (eval b X.env)
      standAt q
      holding [v, ov, iv] (setItem ov iv v)
      release [v, ov, iv] []) := by intro _; rfl) : SS X P Wx (.Assign [.Subscript a b q] e pos) (setLM fa fb fe) :=
  convS (ps_asg he (pg_sub ha hb set_list hu) hs hw h1) fun D σ H ⟨G, m, env, st, hE, hS, ho⟩ => goS hE hS ho fun G1 m1 H1 v w st1 x1 e1 s1 r1 o1 => goS e1 s1 o1 fun G2 m2 H2 v2 w2 st2 x2 e2 s2 r2 o2 => goS e2 s2 o2 fun G3 m3 H3 v3 w3 st3 x3 e3 s3 r3 o3 => by
    obtain ⟨G4, d, st4, s4, x4, rd, o4⟩ := toDS_cases (α := Unit) s3 ((r1.mono x2.g x2.pre).mono x3.g x3.pre) o3
    split at o4
    · rename_i k
      split at o4
      · rename_i xs j hk hj
        obtain ⟨q', vs, rfl, hp, hn, hh, l⟩ := live_lst s4 ((r2.mono x3.g x3.pre).mono x4.g x4.pre) hk
        have ei := view_int s4 (r3.mono x4.g x4.pre) hj
        subst ei
        split at o4
        · rename_i n hn'
          refine ⟨q', vs, j, n, rfl, rfl, hh, by rw [l.length]; exact hn', ?_⟩
          have hc : CellOk X.K P G4 m3 (upd H3 q' (.lst (vs.set n v))) q' (.lst (xs.set n d)) := ⟨hn, _, upd_same, l.set rd n⟩
          obtain ⟨s5, x5⟩ := s4.write hp hn hc
          exact o4 G4 m3 σ _ x5 (e3.mono (x4.g.trans x5.g) (x4.pre.trans x5.pre)) s5
        · exact o4.elim
      · exact o4.elim
    · exact o4.elim
theorem ss_setD {q : Pos} (hu : X.A.units + 1 < cLine) (ha : SE X P Wx a fa) (hb : SE X P Wx b fb) (he : SE X P Wx e fe) (hs : swapsWith e (some (.Subscript a b q)) pos.line X.env = pure false := by rfl) : SS X P Wx (.Assign [.Subscript a b q] e pos) (setDM fa fb fe) :=
  convS (ps_dput hu ha hb he hs) fun D σ H ⟨G, m, env, st, hE, hS, ho⟩ => goS hE hS ho fun G1 m1 H1 v w st1 x1 e1 s1 r1 o1 => goS e1 s1 o1 fun G2 m2 H2 v2 w2 st2 x2 e2 s2 r2 o2 => goS e2 s2 o2 fun G3 m3 H3 v3 w3 st3 x3 e3 s3 r3 o3 => by
    obtain ⟨G4, d, st4, s4, x4, rd, o4⟩ := toDS_cases (α := Unit) s3 ((r1.mono x2.g x2.pre).mono x3.g x3.pre) o3
    split at o4
    · rename_i k
      split at o4
      · rename_i kvs s' hk hj
        obtain ⟨q', vs, rfl, hp, hn, hh, l⟩ := live_dct s4 ((r2.mono x3.g x3.pre).mono x4.g x4.pre) hk
        have ei := view_str s4 (r3.mono x4.g x4.pre) hj
        subst ei
        split at o4
        · rename_i hz
          refine ⟨q', _, rfl, .inl ⟨vs, .inr s', hh, rfl, by rw [l.length]; exact hz, rfl⟩, ?_⟩
          have hc : CellOk X.K P G4 m3 (upd H3 q' (.dK (putK vs (.inr s') v))) q' (.dct (putD kvs s' d)) := ⟨hn, _, upd_same, l.put rd⟩
          obtain ⟨s5, x5⟩ := s4.write hp hn hc
          exact o4 G4 m3 σ _ x5 (e3.mono (x4.g.trans x5.g) (x4.pre.trans x5.pre)) s5
        · exact o4.elim
      · exact o4.elim
    · exact o4.elim
theorem ss_setF {fn : Str} {q : Pos} (hc : Cls X.K P.CM) (hn : NoAttr X.K P.CM fn) (ha : SE X P Wx a fa) (he : SE X P Wx e fe) (hs : swapsWith e (some (.Attribute a fn q)) pos.line X.env = pure false := by rfl) : SS X P Wx (.Assign [.Attribute a fn q] e pos) (setFM fn fa fe) :=
  convS (ps_fld ha he hs) fun D σ H ⟨G, m, env, st, hE, hS, ho⟩ => goS hE hS ho fun G1 m1 H1 v w st1 x1 e1 s1 r1 o1 => goS e1 s1 o1 fun G2 m2 H2 v2 w2 st2 x2 e2 s2 r2 o2 => by
    split at o2
    · rename_i k
      split at o2
      · rename_i fs hk
        obtain ⟨q', dx, vs, rfl, hp, hg, hh, l⟩ := live_obj s2 r2 hk
        split at o2
        · rename_i hz
          refine ⟨q', P.CM, dx, vs, rfl, hh, hc, hn, by rw [l.length]; exact hz.1, ?_⟩
          have hc' : CellOk X.K P G2 m2 (upd H2 q' (.ins P.CM dx (L2.putF fn v vs))) q' (.obj (Py.putF fn w fs)) := ⟨hg, dx, _, upd_same, l.put ((r1.mono x2.g x2.pre).toCore hz.2)⟩
          obtain ⟨s5, x5⟩ := s2.write hp hg hc'
          exact o2 G2 m2 σ _ x5 (e2.mono x5.g x5.pre) s5
        · exact o2.elim
      · exact o2.elim
    · exact o2.elim

/-! ### loops -/
/-- a loop's target -/
inductive SGt (X : Cx) (P : Pm) : Expr → Tgt → Prop
  | name {x : Str} {i : Nat} {pp : Pos} (hN : X.N.Nodup) (hi : X.N[i]? = some x) (hx : Loc X.env.scope x) (hf : X.fn x = true ∨ X.env.scope.names.lookup x = some .local) : SGt X P (.Name x pp) (.name i)
  | pair {x y : Str} {i j k : Nat} {px py pt : Pos} (hc : X.calm = true) (hN : X.N.Nodup) (h : STg X [.Name x px, .Name y py] [i, j]) (hn : (assignEach [.Name x px, .Name y py] X.env).length = 2) (hst : (assignEach [.Name x px, .Name y py] X.env).findIdx? (·.1) = none) : SGt X P (.Tuple [.Name x px, .Name y py] k pt) (.pair i j)
def gT (K : PySem.W.Frag) : Tgt → TG
  | .name i => gName i
  | .pair i j => gTup K 2 (gNames [i, j])
theorem SGt.pg {t : Tgt} (h : SGt X P tg t) : PG X tg (gT X.K t) := by
  cases h with
  | name hN hi hx hf => exact pg_name hN hi hx hf
  | pair hc hN h hn hst => exact pg_tup hc (h.pgs hN) hn hst
theorem gT_ok {t : Tgt} {G : Hp} {m : List Addr} {H : Hp} {st : Store} {σ : L2.St} {env env' : Env} {x : V} {d : D} {Q : L2.St → Hp → Prop} (hE : REnv K P G m σ env) (hS : RS0 K P G m H st) (r : RepD K G x d) (e : setT t d env = some env') (k : ∀ σ', REnv K P G m σ' env' → Q σ' H) : gT K t x σ H Q := by
  cases t with
  | name i =>
    cases e
    exact k _ (hE.set (w := .d d) r)
  | pair i j =>
    unfold setT at e
    simp only at e
    split at e
    · rename_i u w
      cases e
      cases r with
      | tup h l =>
        refine ⟨_, _, rfl, hS.sqT h, by rw [l.length]; rfl, sets_ok hE l rfl k⟩
    · cases e
theorem for_ok {t : Tgt} {D : Ends} {σ : L2.St} {H : Hp} (h : rS K P Wx (forM fi t f) D σ H) : tFor (rdG K P Wx (fun G _ J xs => Walks K G J xs) fi) (gT K t) (rS K P Wx f) D σ H := by
  obtain ⟨G, m, env, st, hE, hS, ho⟩ := h
  refine goS hE hS ho fun G1 m1 H1 J xs st1 x1 e1 s1 w1 o1 => ?_
  refine ⟨fun j n σ' H' => n = xs.length - j ∧ j ≤ xs.length ∧ ∃ G2 m2 env2 st2, Ext G1 m1 H1 G2 m2 H' ∧ REnv K P G2 m2 σ' env2 ∧ RS0 K P G2 m2 H' st2 ∧ OutS K P Wx G2 m2 H' (loopS t f (xs.drop j) env2 st2) D, ⟨xs.length, by simp, Nat.zero_le _, G1, m1, env, st1, .refl, e1, s1, by rw [List.drop_zero]; exact o1⟩, ?_⟩
  rintro j n σ' H' ⟨rfl, hj, G2, m2, env2, st2, x2, e2, s2, o2⟩
  have hsub : ∀ a o, G1 a = some o → H' a = some o := fun a o q => s2.sub a o (x2.g a o q)
  by_cases hlt : j < xs.length
  · have hd : xs.drop j = xs[j] :: xs.drop (j + 1) := List.drop_eq_getElem_cons hlt
    rw [hd] at o2
    refine .inr ⟨w1.go j H' hsub hlt, fun σ'' H'' => j + 1 ≤ xs.length ∧ ∃ G2 m2 env2 st2, Ext G1 m1 H1 G2 m2 H'' ∧ REnv K P G2 m2 σ'' env2 ∧ RS0 K P G2 m2 H'' st2 ∧ OutS K P Wx G2 m2 H'' (loopS t f (xs.drop (j + 1)) env2 st2) D, fun σ'' H'' q => ⟨xs.length - (j + 1), by omega, rfl, q⟩, fun x H'' hy => ?_⟩
    obtain ⟨G3, s3, x3, rx⟩ : ∃ G3, RS0 K P G3 m2 H'' st2 ∧ Ext G2 m2 H' G3 m2 H'' ∧ RepD K G3 x xs[j] := by
      rcases w1.yld j H' x H'' xs[j] hsub (List.getElem?_eq_getElem hlt) hy with ⟨rfl, r⟩ | ⟨T, vs, ds, rfl, hT, rfl, ed, r⟩
      · exact ⟨G2, s2, .refl, r.mono x2.g⟩
      · obtain ⟨s3, x3⟩ := s2.newD (o := .tup vs) hT
        refine ⟨_, s3, x3, ?_⟩
        rw [ed]
        exact .tup (SqT.of upd_same) (r.mono (x2.g.trans x3.g))
    replace o2 := OutS.shift o2 x3
    unfold loopS at o2
    split at o2
    · rename_i env3 he
      refine gT_ok (e2.mono x3.g x3.pre) s3 rx he fun σ3 e3 => ⟨G3, m2, env3, st2, e3, s3, ?_⟩
      cases q : f env3 st2 with
      | nx env' st' =>
        rw [q] at o2
        exact fun G4 m4 σ4 H4 x4 e4 s4 => ⟨hlt, G4, m4, env', st', (x2.trans x3).trans x4, e4, s4, OutS.shift o2 x4⟩
      | ret w st' => rw [q] at o2; exact o2
      | err c env' st' => rw [q] at o2; exact o2
      | stuck => rw [q] at o2; exact o2
    · exact o2.elim
  · have hj' : j = xs.length := by omega
    subst hj'
    rw [List.drop_length] at o2
    exact .inl ⟨w1.stop _ H' hsub (Nat.le_refl _), o2 G2 m2 σ' H' .refl e2 s2⟩
theorem ss_for {t : Tgt} (hp : PassesOwn (model X.prog X.w) X.A X.env X.xe) (hc : X.calm = true) (hi : SI X P Wx tg iter fi) (hg : SGt X P tg t) (hb : SSs X P Wx body f) (hs : ∀ x, foldedSetIterable iter X.env x = pure x := by intro _; rfl) : SS X P Wx (.For tg iter body [] pos) (forM fi t f) :=
  convS (ps_for hp hc hi hg.pg hb hs) fun D σ H h => for_ok h
theorem while_ok {N : Nat} {D : Ends} {σ : L2.St} {H : Hp} (h : rS K P Wx (whileM ft f N) D σ H) : tWhile (rT K P Wx ft) (rS K P Wx f) D σ H := by
  refine ⟨fun n σ' H' => rS K P Wx (whileM ft f n) D σ' H', ⟨N, h⟩, ?_⟩
  rintro n σ' H' ⟨G, m, env, st, hE, hS, ho⟩
  cases n with
  | zero => exact ho.elim
  | succ n =>
    refine goS hE hS ho fun G1 m1 H1 v w st1 x1 e1 s1 r1 o1 => ?_
    have r1' : v = w := r1
    subst r1'
    cases v with
    | false => exact o1 G1 m1 σ' H1 .refl e1 s1
    | true =>
      refine ⟨fun σ'' H'' => rS K P Wx (whileM ft f n) D σ'' H'', fun σ'' H'' q => ⟨n, Nat.lt_succ_self n, q⟩, G1, m1, env, st1, e1, s1, ?_⟩
      rw [if_pos rfl] at o1
      cases q : f env st1 with
      | nx env' st' =>
        rw [q] at o1
        exact fun G4 m4 σ4 H4 x4 e4 s4 => ⟨G4, m4, env', st', e4, s4, OutS.shift o1 x4⟩
      | ret w st' => rw [q] at o1; exact o1
      | err c env' st' => rw [q] at o1; exact o1
      | stuck => rw [q] at o1; exact o1
theorem ss_while (N : Nat) (hp : PassesOwn (model X.prog X.w) X.A X.env X.xe) (hc : ST X P Wx c ft) (hb : SSs X P Wx body f) : SS X P Wx (.While c body [] pos) (whileM ft f N) := convS (ps_while hp hc hb) fun D σ H h => while_ok h
end
end Py

namespace Py
open PySem L2 PySem.Spec PyProof.Rows
/-! ### what a def promises -/
def spF (K : PySem.W.Frag) (P : Pm) (n : Nat) (F : Fn) : Sp := fun vs H Q E => vs.length = n ∧ ∃ G m ws st, RepWs K P.core G m vs ws ∧ RS0 K P.core G m H st ∧ OutG K P.core G m H (RepW K P.core) (F ws st) Q (fun c H' => E (.ref (P.EC c)) none H')
section
variable {K : PySem.W.Frag} {P : Pm}
theorem RepWs.length {G : Hp} {m : List Addr} {vs : List V} {ws : List W} (h : RepWs K P G m vs ws) : vs.length = ws.length := by
  induction h with
  | nil => rfl
  | cons _ _ ih => exact congrArg (· + 1) ih
theorem RepWs.env {G : Hp} {m : List Addr} {vs : List V} {ws : List W} (h : RepWs K P G m vs ws) (n : Nat) : REnv K P G m (vs.map some ++ List.replicate n none) (ws.map some ++ List.replicate n none) := by
  refine ⟨by simp [h.length], fun i w e => ?_⟩
  have hlt : i < ws.length := by
    by_cases hi : i < ws.length
    · exact hi
    · exfalso
      rw [List.getElem?_append_right (by rw [List.length_map]; omega)] at e
      rw [List.getElem?_replicate] at e
      split at e <;> cases e
  rw [List.getElem?_append_left (by rw [List.length_map]; exact hlt), List.getElem?_map] at e
  rw [List.getElem?_append_left (by rw [List.length_map, h.length]; exact hlt), List.getElem?_map]
  clear hlt
  induction h generalizing i with
  | nil => simp at e
  | @cons v vs w' ws r l ih =>
    cases i with
    | zero =>
      simp at e
      subst e
      exact ⟨v, rfl, r⟩
    | succ i =>
      obtain ⟨u, h1, h2⟩ := ih i (by simpa using e)
      exact ⟨u, by simpa using h1, h2⟩
theorem RepF.restrict {G G' : Hp} {m m' : List Addr} (p : m <+: m') : ∀ {vs vs' : List (Str × V)} {fs : List (Str × W)}, RepF K P G m vs fs → RepF K P G' m' vs' fs → RepF K P G' m vs' fs
  | _, _, _, .nil, .nil => .nil
  | _, _, _, .cons (w := w) r l, .cons r' l' => by
    refine .cons ?_ (RepF.restrict p l l')
    cases w with
    | d x => exact r'
    | exc => exact r'
    | c k =>
      obtain ⟨a, e, rfl⟩ := r
      obtain ⟨a', e', rfl⟩ := r'
      have := pre_get p e
      rw [e'] at this
      cases this
      exact ⟨_, e, rfl⟩
theorem RS0.trunc {G G' H H' : Hp} {m m' : List Addr} {st st' : Store} (hS : RS0 K P G m H st) (x : Ext G m H G' m' H') (s : RS0 K P G' m' H' st') (k : Kept st st') : RS0 K P G' m H' (st'.take st.length) ∧ Ext G m H G' m H' := by
  refine ⟨⟨s.sub, ?_, hS.nd, fun a ha => s.inH a (x.pre.subset ha), fun j a c ha hc => ?_⟩, ⟨x.g, List.prefix_refl m, fun _ h => .inl h, x.fr, x.th, fun b hb => ?_⟩⟩
  · rw [List.length_take, hS.len]
    have := k.1
    omega
  · have hj : j < st.length := by rw [← hS.len]; exact (List.getElem?_eq_some_iff.mp ha).1
    rw [List.getElem?_take_of_lt hj] at hc
    have z := s.cell j a c (pre_get x.pre ha) hc
    cases c with
    | lst xs => exact z
    | dct xs => exact z
    | frz d => exact z
    | obj fs =>
      obtain ⟨n, dx, vs, e, l⟩ := z
      obtain ⟨_, _, vs0, _, l0⟩ := hS.cell j a _ ha (k.2 j fs hj hc)
      exact ⟨n, dx, vs, e, RepF.restrict x.pre l0 l⟩
  · rcases x.gn b hb with h | h | h
    · exact .inl h
    · rcases x.new b h with q | q
      · exact .inr (.inl q)
      · exact .inr (.inr q)
    · exact .inr (.inr h)
theorem fin_ok {G G' H H' : Hp} {m m' : List Addr} {st st' : Store} {v : V} {w : W} {Q : VK} {E : Exc → Hp → Prop} (hS : RS0 K P.core G m H st) (x : Ext G m H G' m' H') (s : RS0 K P.core G' m' H' st') (r : RepW K P.core G' m' v w)
    (ho : OutG K P.core G m H (RepW K P.core) (fin st w st') Q E) : Q v H' := by
  unfold fin at ho
  split at ho
  · rename_i hk
    obtain ⟨s1, x1⟩ := hS.trunc x s hk
    cases w with
    | d y => exact ho G' m H' v x1 s1 r
    | exc => exact ho.elim
    | c k =>
      simp only at ho
      obtain ⟨a, ha, rfl⟩ := r
      split at ho
      · rename_i hlt
        exact ho G' m H' _ x1 s1 ⟨a, pre_self x.pre (by rw [hS.len]; exact hlt) ha, rfl⟩
      · rename_i hge
        have hnm : a ∉ m := fun hm => by
          obtain ⟨j, hj⟩ := List.mem_iff_getElem?.mp hm
          have h1 := pre_get x.pre hj
          obtain ⟨l1, e1⟩ := List.getElem?_eq_some_iff.mp h1
          obtain ⟨l2, e2⟩ := List.getElem?_eq_some_iff.mp ha
          have : j = k := (List.getElem_inj s.nd).mp (e1.trans e2.symm)
          subst this
          exact hge (by rw [← hS.len]; exact (List.getElem?_eq_some_iff.mp hj).1)
        have hnew : H a = none := (x.new a (List.mem_of_getElem? ha)).resolve_left hnm
        have keepL : ∀ (c : Cell), st'[k]? = some c → (∀ fs, c ≠ .obj fs) → RS0 K P.core G' (m ++ [a]) H' (st'.take st.length ++ [c]) ∧ Ext G m H G' (m ++ [a]) H' := fun c hc hno => by
          refine ⟨⟨s1.sub, by simp [s1.len], ?_, fun b hb => ?_, fun j b c' hb hc' => ?_⟩, ⟨x1.g, List.prefix_append m [a], fun b hb => ?_, x1.fr, x1.th, fun b hb => ?_⟩⟩
          · rw [List.nodup_append]
            refine ⟨hS.nd, by simp, fun b hb c hc => ?_⟩
            rw [List.mem_singleton] at hc
            subst hc
            intro z
            subst z
            exact hnm hb
          · rcases List.mem_append.mp hb with q | q
            · exact s1.inH b q
            · rw [List.mem_singleton] at q; subst q; exact s.inH b (List.mem_of_getElem? ha)
          · by_cases hj : j < m.length
            · rw [List.getElem?_append_left hj] at hb
              rw [List.getElem?_append_left (by rw [← s1.len]; exact hj)] at hc'
              exact (s1.cell j b c' hb hc').mono (GLe.refl G') (List.prefix_append m [a]) (fun u hu => hu) fun n => n
            · have hk' : j = m.length := by
                have := (List.getElem?_eq_some_iff.mp hb).1
                rw [List.length_append, List.length_singleton] at this
                omega
              subst hk'
              rw [List.getElem?_append_right (Nat.le_refl _)] at hb
              rw [s1.len, List.getElem?_append_right (Nat.le_refl _)] at hc'
              simp at hb hc'
              subst hb hc'
              have z := s.cell k _ _ ha hc
              cases c with
              | lst xs => exact z
              | dct xs => exact z
              | frz d => exact z
              | obj fs => exact absurd rfl (hno fs)
          · rcases List.mem_append.mp hb with q | q
            · exact .inl q
            · rw [List.mem_singleton] at q; subst q; exact .inr hnew
          · rcases x1.gn b hb with q | q | q
            · exact .inl q
            · exact .inr (.inl (List.mem_append_left _ q))
            · exact .inr (.inr q)
        have hget : (m ++ [a])[st.length]? = some a := by
          rw [← hS.len, List.getElem?_append_right (Nat.le_refl _)]
          simp
        split at ho
        · rename_i xs hc
          obtain ⟨s2, x2⟩ := keepL _ hc (fun fs z => nomatch z)
          exact ho G' (m ++ [a]) H' _ x2 s2 ⟨a, hget, rfl⟩
        · rename_i xs hc
          obtain ⟨s2, x2⟩ := keepL _ hc (fun fs z => nomatch z)
          exact ho G' (m ++ [a]) H' _ x2 s2 ⟨a, hget, rfl⟩
        · rename_i d hc
          exact ho G' m H' _ x1 s1 (s.cell k a _ ha hc)
        · exact ho.elim
  · exact ho.elim
theorem finE_ok {G G' H H' : Hp} {m m' : List Addr} {st st' : Store} {c : Exc} {Q : VK} {E : Exc → Hp → Prop} (hS : RS0 K P.core G m H st) (x : Ext G m H G' m' H') (s : RS0 K P.core G' m' H' st')
    (ho : OutG K P.core G m H (RepW K P.core) (finE st c st') Q E) : E c H' := by
  unfold finE at ho
  split at ho
  · rename_i hk
    obtain ⟨s1, x1⟩ := hS.trunc x s hk
    exact ho G' m H' x1 s1
  · exact ho.elim
/-- a def's body keeps the promise -/
theorem body_fn {a : Nat} {N : List Str} {body : MS} {vs : List V} {H : Hp} {Q : VK} {E : XK} (h : spF K P a (fnM a N.length body) vs H Q E) : rS K P.core (fun cls d _ H' => E cls d H') body { nx := fun _ H' => Q .non H', rt := Q } (L2.start N vs) H := by
  obtain ⟨hl, G, m, ws, st, rw', hS, ho⟩ := h
  have hl' : ws.length = a := by rw [← rw'.length]; exact hl
  have ho' := ho
  unfold fnM at ho'
  rw [if_pos hl'] at ho'
  have es : L2.start N vs = vs.map some ++ List.replicate (N.length - a) none := by unfold L2.start; rw [hl]
  rw [es]
  refine ⟨G, m, _, st, rw'.env (N.length - a), hS, ?_⟩
  cases q : body (ws.map some ++ List.replicate (N.length - a) none) st with
  | nx env' st' => rw [q] at ho'; exact fun G' m' σ' H' x e s => fin_ok (P := P) (w := .d .non) hS x s (show RepD K G' _ _ from .non) ho'
  | ret w st' => rw [q] at ho'; exact fun G' m' H' v x s r => fin_ok (P := P) hS x s r ho'
  | err c env' st' => rw [q] at ho'; exact fun G' m' σ' H' x e s => finE_ok (P := P) hS x s ho'
  | stuck => rw [q] at ho'; exact ho'.elim
theorem body_raw {a : Nat} {N : List Str} {body : MS} {vs : List V} {H : Hp} {Q : VK} {E : XK} (h : spF K P a (rawM a N.length body) vs H Q E) : rS K P.core (fun cls d _ H' => E cls d H') body { nx := fun _ H' => Q .non H', rt := Q } (L2.start N vs) H := by
  obtain ⟨hl, G, m, ws, st, rw', hS, ho⟩ := h
  have hl' : ws.length = a := by rw [← rw'.length]; exact hl
  have ho' := ho
  unfold rawM at ho'
  rw [if_pos hl'] at ho'
  have es : L2.start N vs = vs.map some ++ List.replicate (N.length - a) none := by unfold L2.start; rw [hl]
  rw [es]
  refine ⟨G, m, _, st, rw'.env (N.length - a), hS, ?_⟩
  cases q : body (ws.map some ++ List.replicate (N.length - a) none) st with
  | nx env' st' => rw [q] at ho'; exact fun G' m' σ' H' x e s => ho' G' m' H' _ x s (show RepD K G' _ _ from .non)
  | ret w st' =>
    rw [q] at ho'
    simp only at ho'
    split at ho'
    · exact ho'.elim
    · exact fun G' m' H' v x s r => ho' G' m' H' v x s r
  | err c env' st' => rw [q] at ho'; exact fun G' m' σ' H' x e s => ho' G' m' H' x s
  | stuck => rw [q] at ho'; exact ho'.elim
end

/-- the context of a def's body -/
abbrev Bx (P : Program) (w : World) (K : PySem.W.Frag) (mg : Str → Option Value) (base : Heap) (N : List Str) (qual : Str) (sc : Scope) (f : Addr) (cdv : Value) (A : Around) (outer : List PySem.Env) (s : Shared) (H : Hp) (E : XK) : Cx := cxOf (L2.CX P w) P w K mg base N qual sc f cdv A outer s H E
section
variable {Pg : Program} {w : World} {K : PySem.W.Frag} {mg : Str → Option Value} {base : Heap} {P : Pm}
/-- a def: its body's derivation is its promise -/
theorem okF {x qual : Str} {st : Stmt} {f : Addr} {fd : FuncData} {N ps : List Str} {k : Nat} {body : MS} {a n : Nat} (F : L2.Fun K x qual st f fd) (S : FnScope N ps (defScope st)) (ea : ps.length = a) (en : N.length = n) (hx : P.xa = none)
    (hb : ∀ (cdv : Value) (A : Around) (outer : List PySem.Env) (s : Shared) (H : Hp) (E : XK), Room k (A.deeper (envOfC qual (defScope st) s.heap.objs.size f cdv)) →
      Takes (Bx Pg w K mg base N qual (defScope st) f cdv A outer s H E) (fun cls d _ H' => E cls d H') → PassesOwn (model Pg w) (Bx Pg w K mg base N qual (defScope st) f cdv A outer s H E).A (Bx Pg w K mg base N qual (defScope st) f cdv A outer s H E).env (Bx Pg w K mg base N qual (defScope st) f cdv A outer s H E).xe →
      SSs (Bx Pg w K mg base N qual (defScope st) f cdv A outer s H E) P (fun cls d _ H' => E cls d H') (defBody st) body) : FnOk Pg w K mg base (L2.CX Pg w) (k + 1) f fd ps (spF K P a (fnM a n body)) := by
  subst ea en
  have hP : P.core = P := by
    cases P
    cases hx
    rfl
  refine F.okX S (fun vs H Q E h => h.1) (fun cdv A outer s H vs Q E hr h => ⟨_, hb cdv A outer s H E hr (takes_of rfl rfl rfl rfl) (passes_of rfl), ?_⟩)
  have z := body_fn h
  rw [hP] at z
  exact z
theorem okR {x qual : Str} {st : Stmt} {f : Addr} {fd : FuncData} {N ps : List Str} {k : Nat} {body : MS} {a n : Nat} (F : L2.Fun K x qual st f fd) (S : FnScope N ps (defScope st)) (ea : ps.length = a) (en : N.length = n) (hx : P.xa = none)
    (hb : ∀ (cdv : Value) (A : Around) (outer : List PySem.Env) (s : Shared) (H : Hp) (E : XK), Room k (A.deeper (envOfC qual (defScope st) s.heap.objs.size f cdv)) →
      Takes (Bx Pg w K mg base N qual (defScope st) f cdv A outer s H E) (fun cls d _ H' => E cls d H') → PassesOwn (model Pg w) (Bx Pg w K mg base N qual (defScope st) f cdv A outer s H E).A (Bx Pg w K mg base N qual (defScope st) f cdv A outer s H E).env (Bx Pg w K mg base N qual (defScope st) f cdv A outer s H E).xe →
      SSs (Bx Pg w K mg base N qual (defScope st) f cdv A outer s H E) P (fun cls d _ H' => E cls d H') (defBody st) body) : FnOk Pg w K mg base (L2.CX Pg w) (k + 1) f fd ps (spF K P a (rawM a n body)) := by
  subst ea en
  have hP : P.core = P := by
    cases P
    cases hx
    rfl
  refine F.okX S (fun vs H Q E h => h.1) (fun cdv A outer s H vs Q E hr h => ⟨_, hb cdv A outer s H E hr (takes_of rfl rfl rfl rfl) (passes_of rfl), ?_⟩)
  have z := body_raw h
  rw [hP] at z
  exact z
end

/-! ### calls -/
/-- a def that may be called by its name -/
structure Cal (Pg : Program) (w : World) (K : PySem.W.Frag) (mg : Str → Option Value) (base : Heap) (P : Pm) (x : Str) (n k : Nat) (F : Fn) : Prop where
  ex : ∃ f fd ps, FnOk Pg w K mg base (L2.CX Pg w) k f fd ps (spF K P n F) ∧ mg x = some (.ref f) ∧ PySem.W.keepIn K (.ref f) = true ∧ Binds K fd ps []
/-- what a def's meaning must bear -/
def Ar (n : Nat) (F : Fn) : Prop := ∀ ws st, F ws st ≠ .stuck → ws.length = n
theorem ar_fn {a n : Nat} {b : MS} : Ar a (fnM a n b) := fun ws st h => by
  unfold fnM at h
  split at h
  · assumption
  · exact absurd rfl h
theorem ar_raw {a n : Nat} {b : MS} : Ar a (rawM a n b) := fun ws st h => by
  unfold rawM at h
  split at h
  · assumption
  · exact absurd rfl h
section
variable {X : Cx} {P : Pm} {Wx : WX} {a b c e : Expr} {es : List Expr} {fa fb fc fe : M W} {fs : M (List W)} {pos p apos : Pos} {K : PySem.W.Frag} {n k : Nat} {F : Fn} {x m : Str} {f g : MS}
theorem RepF.toCore {G : Hp} {m : List Addr} {vs : List (Str × V)} {fs : List (Str × W)} (l : RepF K P G m vs fs) : RepF K P.core G m vs fs := by
  induction l with
  | nil => exact .nil
  | cons r _ ih => exact .cons r ih
theorem RepF.ofCore {G : Hp} {m : List Addr} {vs : List (Str × V)} {fs : List (Str × W)} (l : RepF K P.core G m vs fs) : RepF K P G m vs fs := by
  induction l with
  | nil => exact .nil
  | cons r _ ih => exact .cons r ih
theorem RS0.toCore {G : Hp} {m : List Addr} {H : Hp} {st : Store} (h : RS0 K P G m H st) : RS0 K P.core G m H st := ⟨h.sub, h.len, h.nd, h.inH, fun k a c ha hc => by
  have z := h.cell k a c ha hc
  cases c with
  | lst _ => exact z
  | dct _ => exact z
  | frz _ => exact z
  | obj fs =>
    obtain ⟨n, dx, vs, e, l⟩ := z
    exact ⟨n, dx, vs, e, l.toCore⟩⟩
theorem RS0.ofCore {G : Hp} {m : List Addr} {H : Hp} {st : Store} (h : RS0 K P.core G m H st) : RS0 K P G m H st := ⟨h.sub, h.len, h.nd, h.inH, fun k a c ha hc => by
  have z := h.cell k a c ha hc
  cases c with
  | lst _ => exact z
  | dct _ => exact z
  | frz _ => exact z
  | obj fs =>
    obtain ⟨n, dx, vs, e, l⟩ := z
    exact ⟨n, dx, vs, e, l.ofCore⟩⟩
theorem out_core {G : Hp} {m : List Addr} {H : Hp} {r : Res W} {Q : VK} {E : Exc → Hp → Prop} (h : OutG K P G m H (RepW K P) r Q E) : OutG K P.core G m H (RepW K P.core) r Q E := by
  cases r with
  | ok w st' => exact fun G' m' H' v x s r => h G' m' H' v x s.ofCore r.ofCore
  | err c st' => exact fun G' m' H' x s => h G' m' H' x s.ofCore
  | stuck => exact h
def noExc : List W → Bool
  | [] => true
  | w :: r => !w.isExc && noExc r
/-- a call of a def: errors at hand are not given -/
def callF (F : Fn) (a : M (List W)) : M W := fun env st => (a env st).bind fun ws s1 => if noExc ws = true then F ws s1 else .stuck
theorem RepWs.toCore {G : Hp} {m : List Addr} {vs : List V} {ws : List W} (r : RepWs K P G m vs ws) (h : noExc ws = true) : RepWs K P.core G m vs ws := by
  induction r with
  | nil => exact .nil
  | @cons v vs w ws r _ ih =>
    simp only [noExc, Bool.and_eq_true, Bool.not_eq_true'] at h
    exact .cons (r.toCore h.1) (ih h.2)
theorem se_call (c : Cal X.prog X.w X.K X.mg X.base P x n k F) (hF : Ar n F) (hr : Room k X.A) (hg : Gl X x) (tk : Takes X Wx) (ha : SA X P Wx (a :: es) fs) (hdb : (x == ("__debug__" : Str)) = false := by decide +kernel)
    (he : starEach (a :: es) X.env = (false, eval a X.env) :: starEach es X.env := by rfl) (hpl : (backTo pos (starEach es X.env)).any (·.1) = false := by rfl) : SE X P Wx (.Call (.Name x p) (a :: es) [] pos) (callF F fs) := by
  obtain ⟨f, fd, ps, ok, hm, hk, hb⟩ := c.ex
  refine conv (pe_callS ok hr hg hm hk hb (fun σ => passAt tk σ) ha hdb he hpl) fun σ H Q ⟨G, m, env, st, hE, hS, ho⟩ => goG hE hS ho fun G1 m1 H1 v w st1 x1 e1 s1 r1 o1 => ?_
  split at o1
  · rename_i hn
    refine ⟨?_, G1, m1, w, st1, r1.toCore hn, s1.toCore, out_core o1⟩
    rw [r1.length]
    refine hF w st1 fun z => ?_
    rw [z] at o1
    exact o1
  · exact o1.elim

/-! ### own errors -/
structure ExF (K : PySem.W.Frag) (mg : Str → Option Value) (P : Pm) (x : Str) (c : Exc) : Prop where
  g : mg x = some (.ref (P.EC c))
  ex : PySem.W.excIn K (P.EC c) [.type "ValueError", .type "Exception", .type "BaseException", .type "object"] "ValueError.__new__" = true
  kp : PySem.W.keepIn K (.ref (P.EC c)) = true
  sb : PySem.W.subIn K (.ref (P.EC c)) (.type "BaseException") = some true
  ty : PySem.W.typeIn K (.ref (P.EC c)) = some (.type "type")
theorem ss_raise {c : Exc} {z : Str} {j : Nat} {p2 pos2 : Pos} (hc : X.calm = true) (tk : Takes X Wx) (T : ExF X.K X.mg P x c) (hg : Gl X x) (hdb : (x == ("__debug__" : Str)) = false := by decide +kernel) :
    SS X P Wx (.Raise (some (.Call (.Name x p) [.Constant (.str z) j p2] [] pos)) none pos2) (raiseM c) :=
  convS (ps_raise hc tk (pmk_own PySem.F.excBase_ValueError T.ex T.g T.kp (raises_own T.sb T.ty) hg hdb)) fun D σ H ⟨G, m, env, st, hE, hS, ho⟩ => ho G m σ H .refl hE hS

/-! ### try -/
/-- what a clause takes -/
def Catch (K : PySem.W.Frag) (P : Pm) (cv : Value) (cs : List Exc) : Prop := ∀ c : Exc, PySem.W.exmOne K (.ref (P.EC c)) cv = some (decide (c ∈ cs))
inductive Hds (X : Cx) (P : Pm) : List ExceptHandler → List (Value × (Addr → Value → Option Addr → TS)) → List (List Exc × MS) → Prop
  | nil : Hds X P [] [] []
  | cons {x : Str} {cv : Value} {b₀ : Stmt} {suite : List Stmt} {np pos' : Pos} {hds : List ExceptHandler} {l : List (Value × (Addr → Value → Option Addr → TS))} {cs : List Exc} {f : MS} {hs : List (List Exc × MS)} (hc : Names X x cv) (hm : Catch X.K P cv cs)
      (hsu : ∀ (a : Addr) (oe : Obj) (pn : List (Addr × Obj)), SSs (X.suite a ((a, oe) :: pn)) P noX (b₀ :: suite) f) (r : Hds X P hds l hs) :
      Hds X P (.ExceptHandler (some (.Name x np)) none (b₀ :: suite) pos' :: hds) ((cv, fun _ _ _ => rS X.K P noX f) :: l) ((cs, f) :: hs)
theorem Hds.ok {hds : List ExceptHandler} {l : List (Value × (Addr → Value → Option Addr → TS))} {hs : List (List Exc × MS)} (h : Hds X P hds l hs) : HdsOk X hds l := by
  induction h with
  | nil => exact .nil
  | cons hc hm hsu r ih => exact .cons hc (fun a oe cls d pn _ _ => hsu a oe pn) ih
theorem suite_out {G : Hp} {m : List Addr} {H : Hp} {r : RS} {D : Ends} (h : OutS K P Wx G m H (noErrS r) D) : OutS K P noX G m H r D := by
  cases r with
  | err c env st => exact h.elim
  | nx env st => exact h
  | ret w st => exact h
  | stuck => exact h
theorem Hds.wish {hds : List ExceptHandler} {l : List (Value × (Addr → Value → Option Addr → TS))} {hs : List (List Exc × MS)} (h : Hds X P hds l hs) {G : Hp} {m : List Addr} {H : Hp} {σ : L2.St} {env : Env} {st : Store} {c : Exc} {D : Ends} (hE : REnv X.K P G m σ env) (hS : RS0 X.K P G m H st)
    (ho : OutS X.K P Wx G m H (handle c hs env st) D) : wMany X.K Wx D l (.ref (P.EC c)) none σ H := by
  induction h with
  | nil => exact ho G m σ H .refl hE hS
  | @cons x cv b₀ suite np pos' hds l cs f hs hc hm hsu r ih =>
    refine ⟨decide (c ∈ cs), hm c, fun hy a _ => ?_, fun hn => ?_⟩
    · have hy' : c ∈ cs := of_decide_eq_true hy
      unfold handle at ho
      rw [if_pos hy'] at ho
      exact ⟨G, m, env, st, hE, hS, suite_out ho⟩
    · have hn' : ¬ c ∈ cs := of_decide_eq_false hn
      unfold handle at ho
      rw [if_neg hn'] at ho
      exact ih ho
theorem ss_try {body : List Stmt} {h₀ : ExceptHandler} {hds : List ExceptHandler} {l : List (Value × (Addr → Value → Option Addr → TS))} {hs : List (List Exc × MS)} (hst : X.stack = X.env :: X.outer) (hf : X.env.frame = some X.env.locals) (tk : Takes X Wx)
    (hb : ∀ (W : WX) (pn : List (Addr × Obj)) (xe : Value → Shared → Prop), Takes (X.tr pn xe) W → PassesOwn (model X.prog X.w) X.A X.env xe → SSs (X.tr pn xe) P W body f)
    (hh : Hds X P (h₀ :: hds) l hs) : SS X P Wx (.Try body (h₀ :: hds) [] [] pos) (tryM f hs) := by
  refine convS (ps_try_many (tb := fun W => rS X.K P W f) (l := l) hst hf tk hb hh.ok) fun D σ H ⟨G, m, env, st, hE, hS, ho⟩ => ⟨G, m, env, st, hE, hS, ?_⟩
  unfold tryM at ho
  cases q : f env st with
  | nx env' st' => rw [q] at ho; exact ho
  | ret w st' => rw [q] at ho; exact ho
  | stuck => rw [q] at ho; exact ho
  | err c env' st' =>
    rw [q] at ho
    exact fun G' m' σ' H' x e s => hh.wish e s (OutS.shift ho x)
end
end Py

namespace Py
open PySem L2 PySem.Spec PyProof.Rows
section
variable {X : Cx} {P : Pm} {Wx : WX} {a : Expr} {fa : M W}
/-- a value, become data -/
def frM (a : M W) : M W := fun env st => (a env st).bind fun x s1 => (toD x s1).bind fun d s2 => .ok (.d d) s2
theorem se_fr (ha : SE X P Wx a fa) : SE X P Wx a (frM fa) :=
  conv ha fun σ H Q ⟨G, m, env, st, hE, hS, ho⟩ => goG hE hS ho fun G1 m1 H1 v w st1 x1 e1 s1 r1 o1 => by
    cases q : asD st1 w with
    | none => simp only [Py.toD, q, Res.bind_stuck] at o1; exact o1.elim
    | some d =>
      simp only [Py.toD, q, Res.bind_ok] at o1
      obtain ⟨G2, s2, x2, r2⟩ := s1.toD r1 q
      exact o1 G2 m1 H1 v x2 s2 r2
end
end Py

namespace Py
open PySem L2 PySem.Spec PyProof.Rows
section
variable {X : Cx} {P : Pm} {Wx : WX} {K : PySem.W.Frag} {tg iter elt : Expr} {pos : Pos}
end
/-- what is never told need not be done -/
theorem ok_stuck {Pg : Program} {w : World} {K : PySem.W.Frag} {mg : Str → Option Value} {base : Heap} {CX : CXT} {k n : Nat} {f : Addr} {fd : FuncData} {ps : List Str} {P : Pm} : FnOk Pg w K mg base CX k f fd ps (spF K P n fun _ _ => .stuck) := by
  have no : ∀ vs H Q E, ¬ spF K P n (fun _ _ => .stuck) vs H Q E := fun vs H Q E ⟨_, _, _, _, _, _, _, h⟩ => h
  exact ⟨fun vs H Q E h => absurd h (no _ _ _ _), fun A outer s H args us vs Q E hr e hb rv h => absurd h (no _ _ _ _)⟩
end Py

namespace Py
open PySem L2 PySem.Spec PyProof.Rows
section
variable {X : Cx} {P : Pm} {Wx : WX} {K : PySem.W.Frag} {tg iter : Expr} {body : List Stmt} {pos : Pos} {fa : M W} {f : MS}
end
end Py

/-! Objects of an own class: methods, the making. -/
namespace Py
open PySem L2 PySem.Spec PyProof.Rows
section
variable {X : Cx} {CX : CXT} {k : Nat} {f C : Addr} {fd : FuncData} {ps : List Str} {sp : Sp} {E : L2.St → XK} {x m : Str} {p pos apos : Pos} {e o : Expr} {es : List Expr} {ta : TE} {t : TA}
theorem pe_meth0S {pl : Sem Bool} (he : PE X o ta) (c : Cls X.K C) (hm : Meth X.K C m f) (F : FnOk X.prog X.w X.K X.mg X.base CX k f fd ps sp) (hr : Room k X.A) (hb : Binds X.K fd ps []) (hx : ∀ σ, PassesAt CX X σ (E σ))
    (ht : eval (.Call (.Attribute o m apos) [] [] pos) X.env = (do
      let ov ← eval o X.env
      standAt apos.atName
      let (f, first) ← holding [ov] (getMethod ov m pl)
      callWith pos f first (backTo pos (starEach [] X.env)) (backToKw pos (keywordEach [] X.env))) := by rfl) :
    PE X (.Call (.Attribute o m apos) [] [] pos) (fun σ H Q => ta σ H fun x H1 => ∃ a dx fs, x = .ref a ∧ H1 a = some (.ins C dx fs) ∧ fs.lookup m = none ∧ sp [x] H1 Q (E σ)) := by
  refine ⟨fun pins s σ H Q I h => ?_⟩
  refine PySem.W.methodCall_KW (pl := pl) (thn (he.run pins s σ H _ I h) fun u s1 ⟨x, H1, I1, rx, a, dx, fs, ex, ea, l, q⟩ => ?_) ht
  subst ex
  obtain rfl : u = Value.ref a := rx
  refine getmeth_ok I1 ea c hm l ?_
  exact PySem.W.callWith_K0 (first := [.ref a]) I1.kIn hm.kp (run_fnS (us := [.ref a]) (vs := [.ref a]) F hr hb (hx σ) I1 (.cons rfl .nil) q)
theorem run_makeS {pins : List (Addr × Obj)} {σ : L2.St} {H : Hp} {s : Shared} {Q : VK} {us : List Value} {vs : List V} (M : Mk X.K C f) (F : FnOk X.prog X.w X.K X.mg X.base CX k f fd ps sp) (hr : Room (k + 1) X.A) (hb : Binds X.K fd ps [])
    (hx : PassesAt CX X σ (E σ)) (I : Inv X pins σ H s) (r : Vals vs us)
    (h : ∀ x dx, H x = none → H dx = none → dx ≠ x → sp (.ref x :: vs) (upd (upd H dx (.own x)) x (.ins C dx [])) (fun v H2 => v = .non ∧ Q (.ref x) H2) (E σ)) :
    wpAny (model X.prog X.w) X.A (call (.ref C) us) (EP X pins σ Q) X.xe s := by
  have hq := h (s.heap.objs.size + 1) s.heap.objs.size (I.hok.fresh (Nat.le_succ _)) (I.hok.fresh (Nat.le_refl _)) (Nat.ne_of_lt (Nat.lt_succ_self _))
  have I2 := Inv.made (C := C) I
  have r2 : Vals (V.ref (s.heap.objs.size + 1) :: vs) (Value.ref (s.heap.objs.size + 1) :: us) := .cons rfl r
  have hl : (Value.ref (s.heap.objs.size + 1) :: us ++ []).length = ps.length := by
    have e := r2.length
    rw [F.len _ _ _ _ hq] at e
    rw [List.append_nil]
    exact e.symm
  have b := hb _ (Value.ref (s.heap.objs.size + 1) :: us) I2.kIn hl
  rw [List.append_nil] at b
  refine wpAny_call (make_map (f := f) I.kIn M.makes M.init (beq_iff_eq.mp M.fn) (codeAny_mono (F.run _ X.stack _ _ ⟨Value.ref (s.heap.objs.size + 1) :: us, []⟩ (Value.ref (s.heap.objs.size + 1) :: us) _ _ (E σ) (hr.make C us [])
    (I2.env0.make C us []) b r2 hq) fun r s' hq' => ?_))
  cases r with
  | error e => exact hx pins _ _ e s' I2 hq'
  | ok fl =>
    cases fl with
    | ret u =>
      obtain ⟨v, H', I3, rv, ev, q3⟩ := I2.after hq'
      subst ev
      exact ⟨rv, ⟨V.ref (s.heap.objs.size + 1), H', I3, rfl, q3⟩⟩
    | next => exact False.elim hq'
    | brk => exact False.elim hq'
    | cont => exact False.elim hq'
theorem pe_makeS (M : Mk X.K C f) (F : FnOk X.prog X.w X.K X.mg X.base CX k f fd ps sp) (hr : Room (k + 1) X.A) (hg : Gl X x) (hm : X.mg x = some (.ref C)) (hb : Binds X.K fd ps []) (hx : ∀ σ, PassesAt CX X σ (E σ))
    (ha : PA X (e :: es) t) (hdb : (x == ("__debug__" : Str)) = false := by decide) (he : starEach (e :: es) X.env = (false, eval e X.env) :: starEach es X.env := by rfl) (hpl : (backTo pos (starEach es X.env)).any (·.1) = false := by rfl) :
    PE X (.Call (.Name x p) (e :: es) [] pos) (fun σ H Q => t σ H fun vs H1 => ∀ x dx, H1 x = none → H1 dx = none → dx ≠ x → sp (.ref x :: vs) (upd (upd H1 dx (.own x)) x (.ins C dx [])) (fun v H2 => v = .non ∧ Q (.ref x) H2) (E σ)) := by
  refine ⟨fun pins s σ H Q I h => ?_⟩
  refine wpAny_Call_Name_kw (ld_glob I hg hm ?_ hdb)
  refine PySem.W.callWith_K (h₀ := X.base) I.ok.mod.kin M.kp (thn (ha.run pos pins s σ H _ I h) fun us s1 ⟨vs, H1, I1, r, q⟩ => ⟨I1.kIn, ?_⟩) he hpl
  exact run_makeS M F hr hb (hx σ) I1 r q
end
/-- a new object, then its __init__ -/
def mkM (F : Fn) (a : M (List W)) : M W := fun env st => (a env st).bind fun ws s1 => if noExc ws = true then (F (.c s1.length :: ws) (s1 ++ [.obj []])).bind (fun w s2 => match w with | .d .non => .ok (.c s1.length) s2 | _ => .stuck) else .stuck
/-- the class, its __init__ -/
structure CalI (Pg : Program) (w : World) (K : PySem.W.Frag) (mg : Str → Option Value) (base : Heap) (P : Pm) (n k : Nat) (F : Fn) : Prop where
  ex : ∃ f, Mk K P.CM f ∧ ∃ fd ps, FnOk Pg w K mg base (L2.CX Pg w) k f fd ps (spF K P n F) ∧ Binds K fd ps []
structure CalM (Pg : Program) (w : World) (K : PySem.W.Frag) (mg : Str → Option Value) (base : Heap) (P : Pm) (m : Str) (n k : Nat) (F : Fn) : Prop where
  ex : ∃ f fd ps, FnOk Pg w K mg base (L2.CX Pg w) k f fd ps (spF K P n F) ∧ PySem.W.findIn K (.ref P.CM) m = some (some (.ref f)) ∧ PySem.W.isFn K (.ref f) = true ∧ PySem.W.keepIn K (.ref f) = true ∧ Binds K fd ps []
section
variable {X : Cx} {P : Pm} {Wx : WX} {a b c e o : Expr} {es : List Expr} {fa fb fc fe fo : M W} {fs : M (List W)} {pos p apos : Pos} {K : PySem.W.Frag} {n k : Nat} {F : Fn} {x m : Str} {f g : MS}
theorem RepF.none {G : Hp} {ma : List Addr} {f : Str} : ∀ {vs : List (Str × V)} {ws : List (Str × W)}, RepF K P G ma vs ws → getF f ws = Option.none → vs.lookup f = Option.none
  | _, _, .nil, _ => rfl
  | _, _, .cons (k := k') r l, h => by
    replace h : (if k' = f then some _ else getF f _) = Option.none := h
    split at h
    · cases h
    · rename_i hne
      rw [List.lookup_cons]
      have : (f == k') = false := by rw [beq_eq_false_iff_ne]; exact fun e => hne e.symm
      rw [this]
      exact RepF.none l h
theorem se_meth0 (hc : Cls X.K P.CM) (c : CalM X.prog X.w X.K X.mg X.base P m n k F) (hF : Ar n F) (hr : Room k X.A) (tk : Takes X Wx) {pl : Sem Bool} (ho : SE X P Wx o fo)
    (ht : eval (.Call (.Attribute o m apos) [] [] pos) X.env = (do
      let ov ← eval o X.env
      standAt apos.atName
      let (f, first) ← holding [ov] (getMethod ov m pl)
      callWith pos f first (backTo pos (starEach [] X.env)) (backToKw pos (keywordEach [] X.env))) := by rfl) :
    SE X P Wx (.Call (.Attribute o m apos) [] [] pos) (methM m F fo) := by
  obtain ⟨f, fd, ps, ok, h1, h2, h3, hb⟩ := c.ex
  refine conv (pe_meth0S (pl := pl) ho hc ⟨h1, h2, h3⟩ ok hr hb (fun σ => passAt tk σ) ht) fun σ H Q ⟨G, mm, env, st, hE, hS, ho⟩ => goG hE hS ho fun G1 m1 H1 v w st1 x1 e1 s1 r1 o1 => ?_
  cases w with
  | d y => exact o1.elim
  | exc => exact o1.elim
  | c j =>
    obtain ⟨ad, ha, rfl⟩ := r1
    simp only at o1
    cases q : st1[j]? with
    | none => rw [q] at o1; exact o1.elim
    | some cl =>
      rw [q] at o1
      cases cl with
      | lst _ => exact o1.elim
      | dct _ => exact o1.elim
      | frz _ => exact o1.elim
      | obj fl =>
        simp only at o1
        cases q2 : getF m fl with
        | some _ => rw [q2] at o1; exact o1.elim
        | none =>
          rw [q2] at o1
          obtain ⟨hg, dx, vs, eh, l⟩ := s1.cell j ad _ ha q
          refine ⟨ad, dx, vs, rfl, eh, l.none q2, ?_, G1, m1, [.c j], st1, .cons ⟨ad, ha, rfl⟩ .nil, s1.toCore, out_core o1⟩
          have := hF [.c j] st1 (fun z => by simp only [z] at o1; exact o1)
          simpa using this
theorem se_make (M : CalI X.prog X.w X.K X.mg X.base P n k F) (hF : Ar n F) (hr : Room (k + 1) X.A) (hg : Gl X x) (hm : X.mg x = some (.ref P.CM)) (tk : Takes X Wx) (ha : SA X P Wx (a :: es) fs)
    (hdb : (x == ("__debug__" : Str)) = false := by decide +kernel) (he : starEach (a :: es) X.env = (false, eval a X.env) :: starEach es X.env := by rfl) (hpl : (backTo pos (starEach es X.env)).any (·.1) = false := by rfl) :
    SE X P Wx (.Call (.Name x p) (a :: es) [] pos) (mkM F fs) := by
  obtain ⟨f, hM, fd, ps, ok, hb⟩ := M.ex
  refine conv (pe_makeS hM ok hr hg hm hb (fun σ => passAt tk σ) ha hdb he hpl) fun σ H Q ⟨G, mm, env, st, hE, hS, ho⟩ => goG hE hS ho fun G1 m1 H1 v w st1 x1 e1 s1 r1 o1 => ?_
  split at o1
  · rename_i hn
    intro xa dx hxa hdx hne
    obtain ⟨t1, y1⟩ := s1.newD (p := dx) (o := .own xa) hdx
    have hxa' : (upd H1 dx (.own xa)) xa = none := by rw [upd_ne (fun e => hne e.symm)]; exact hxa
    obtain ⟨t2, y2⟩ := t1.newC (p := xa) (o := .ins P.CM dx []) (c := .obj []) hxa' ⟨t1.freshG hxa', dx, [], upd_same, .nil⟩
    have hl : m1.length = st1.length := s1.len
    have hget : (m1 ++ [xa])[st1.length]? = some xa := by rw [← hl, List.getElem?_append_right (Nat.le_refl _)]; simp
    have rw1 : RepWs X.K P.core (upd G1 dx (.own xa)) (m1 ++ [xa]) (.ref xa :: v) (.c st1.length :: w) := .cons ⟨xa, hget, rfl⟩ ((r1.mono (y1.trans y2).g (y1.trans y2).pre).toCore hn)
    refine ⟨?_, _, m1 ++ [xa], .c st1.length :: w, st1 ++ [.obj []], rw1, t2.toCore, ?_⟩
    · rw [rw1.length]
      refine hF (.c st1.length :: w) (st1 ++ [.obj []]) fun z => ?_
      rw [z] at o1; exact o1
    · cases q : F (.c st1.length :: w) (st1 ++ [.obj []]) with
      | stuck => rw [q] at o1; exact o1
      | err c s2 => rw [q] at o1; exact fun G' m' H' x s => o1 G' m' H' ((y1.trans y2).trans x) s.ofCore
      | ok u s2 =>
        rw [q] at o1
        cases u with
        | c _ => exact o1.elim
        | exc => exact o1.elim
        | d y =>
          cases y with
          | non =>
            intro G' m' H' v' x s r
            have hv : v' = .non := by cases r; rfl
            exact ⟨hv, o1 G' m' H' (.ref xa) ((y1.trans y2).trans x) s.ofCore ⟨xa, pre_get x.pre hget, rfl⟩⟩
          | _ => exact o1.elim
  · exact o1.elim
end
end Py

/-! From the top's facts to the law's end. -/
namespace Py
open PySem L2 PySem.Spec PyProof.Rows
section
variable {Pg : Program} {w : World} {K : PySem.W.Frag} {mg : Str → Option Value} {base h : Heap} {P : Pm}
/-- a def that stands behind the top -/
def DefAt (K : PySem.W.Frag) (mg : Str → Option Value) (x : Str) (st : Stmt) (ps : List Str) : Prop := ∃ (f : Addr) (fd : FuncData), L2.Fun K x x st f fd ∧ mg x = some (.ref f) ∧ PySem.W.keepIn K (.ref f) = true ∧ Binds K fd ps []
theorem def_mk {x : Str} {st : Stmt} {ps : List Str} {f : Addr} {oc : Value} {od an : Option Addr} {osl : Array (Option Value)} {kV dc pm cd ct : Value} (X : K.In h) (G : h.Ns mainGlobals mg)
    (a : PySem.W.nsIn K mainGlobals x = some (some (.ref f))) (l : K.lookup f = some ⟨oc, od, .func (PySem.W.fnOf x x (defArgs st) (defBody st) (defScope st) .none kV dc pm an cd ct), osl⟩) (c : PySem.W.codeIn K cd x = true) (k : PySem.W.keepIn K (.ref f) = true)
    (hb : ∀ (kV doc pm : Value) (an : Option Addr) (cdv ct : Value) (us : List Value), us.length = ps.length → bindArgs (PySem.W.fnOf x x (defArgs st) (defBody st) (defScope st) .none kV doc pm an cdv ct) ⟨us, []⟩ = pure (ps.zip us)) : DefAt K mg x st ps :=
  ⟨f, _, fun_mk (st := st) l c k, PySem.W.mg_of X G a, k, (fun_mk (st := st) l c k).binds hb⟩
theorem cal_mk {x : Str} {st : Stmt} {ps : List Str} {n k : Nat} {F : Fn} (D : DefAt K mg x st ps) (hd : ∀ {f : Addr} {fd : FuncData}, L2.Fun K x x st f fd → FnOk Pg w K mg base (L2.CX Pg w) k f fd ps (spF K P n F)) : Cal Pg w K mg base P x n k F := by
  obtain ⟨f, fd, hF, hm, hk, hb⟩ := D
  exact ⟨⟨f, fd, ps, hd hF, hm, hk, hb⟩⟩
/-- a list of at most 63 ints is handed in, True comes out -/
def spLaw (K : PySem.W.Frag) : Sp := fun vs H Q _ => ∃ (a : Addr) (ns : List Int), vs = [.ref a] ∧ SqL K H a (ns.map V.int) ∧ ns.length ≤ 63 ∧ ∀ H', Q (.bl true) H'
theorem law_sp {F : Fn} (hF : ∀ ns : List Int, ns.length ≤ 63 → F [.d (.scr ns)] [] = .ok (.d (.bl true)) []) (vs : List V) (H : Hp) (Q : VK) (E : XK) (h : spLaw K vs H Q E) : spF K P 1 F vs H Q E := by
  obtain ⟨a, ns, rfl, hS, hl, k⟩ := h
  refine ⟨rfl, H, [], [.d (.scr ns)], [], .cons (.scr hS) .nil, ⟨fun _ _ e => e, rfl, List.nodup_nil, fun a ha => absurd ha List.not_mem_nil, fun k a c ha => by cases k <;> cases ha⟩, ?_⟩
  rw [hF ns hl]
  intro G' m' H' v x s r
  cases r
  exact k H'
theorem weak {x : Str} {f : Addr} {fd : FuncData} {CX : CXT} {k : Nat} {sp sp' : Sp} (F : FnOk Pg w K mg base CX k f fd [x] sp) (i : ∀ vs H Q E, sp' vs H Q E → sp vs H Q E) : FnOk Pg w K mg base CX k f fd [x] sp' :=
  ⟨fun vs H Q E z => F.len vs H Q E (i vs H Q E z), fun A outer s H args us vs Q E hr e hb rv z => F.run A outer s H args us vs Q E hr e hb rv (i vs H Q E z)⟩
/-! ### tables of the text -/
inductive ValD : List Value → List D → Prop
  | nil : ValD [] []
  | s {x : Str} {t : Tok} {us : List Value} {ds : List D} : ValD us ds → ValD (.str x t :: us) (.str x :: ds)
  | n {us : List Value} {ds : List D} : ValD us ds → ValD (.none :: us) (.non :: ds)
theorem ValD.ok {us : List Value} {ds : List D} (h : ValD us ds) : ∃ xs : List V, Vals xs us ∧ ∀ G : Hp, RepL K G xs ds := by
  induction h with
  | nil => exact ⟨[], .nil, fun _ => .nil⟩
  | @s x t us ds _ ih =>
    obtain ⟨xs, a, b⟩ := ih
    exact ⟨.str x :: xs, .cons ⟨t, rfl⟩ a, fun G => .cons (.str x) (b G)⟩
  | n _ ih =>
    obtain ⟨xs, a, b⟩ := ih
    exact ⟨.non :: xs, .cons rfl a, fun G => .cons .non (b G)⟩
inductive TabRows (K : PySem.W.Frag) (t : Addr) : List (Str × D) → Prop
  | nil : TabRows K t []
  | cons {k : Str} {a : Addr} {dd : Option Addr} {its : Array Value} {m : Nat} {sl : Array (Option Value)} {ds : List D} {r : List (Str × D)} (hn : PySem.W.nsIn K t k = some (some (.ref a))) (hl : K.lookup a = some ⟨.type "tuple", dd, .seq its m, sl⟩) (hs : its.size ≤ sizeLine) (hv : ValD its.toList ds)
      (hr : TabRows K t r) : TabRows K t ((k, .tup ds) :: r)
theorem tab_mk {t : Addr} {es : Array DictEntry} {n : Nat} {T : List (Str × D)} (l : K.lookup t = some ⟨.type "dict", none, .dict es n, #[]⟩) (hk : PySem.W.KeysLit w.params es.toList) (rows : TabRows K t T) : TabOk K w t T := by
  intro G k d e
  induction rows with
  | nil => cases e
  | @cons k' a dd its m sl ds r hn hl hs hv _ ih =>
    replace e : (if k' = k then some (D.tup ds) else look k r) = some d := e
    split at e
    · rename_i hkk
      subst hkk
      cases e
      obtain ⟨xs, v1, v2⟩ := hv.ok (K := K)
      exact ⟨.ref a, ⟨es, n, .ref a, l, hk, hn, rfl⟩, .tup (.inr ⟨_, its, m, hl, rfl, rfl, hs, v1⟩) (v2 G)⟩
    · exact ih e
/-! ### errors of the text -/
theorem exf_mk {x : Str} {c : Exc} (X : K.In h) (G : h.Ns mainGlobals mg) (g : PySem.W.nsIn K mainGlobals x = some (some (.ref (P.EC c)))) (ex : PySem.W.excIn K (P.EC c) [.type "ValueError", .type "Exception", .type "BaseException", .type "object"] "ValueError.__new__" = true)
    (kp : PySem.W.keepIn K (.ref (P.EC c)) = true) (sb : PySem.W.subIn K (.ref (P.EC c)) (.type "BaseException") = some true) (ty : PySem.W.typeIn K (.ref (P.EC c)) = some (.type "type")) : ExF K mg P x c := ⟨PySem.W.mg_of X G g, ex, kp, sb, ty⟩
theorem catch_mk {cv : Value} {cs : List Exc} (h1 : PySem.W.exmOne K (.ref (P.EC .empty)) cv = some (decide (.empty ∈ cs))) (h2 : PySem.W.exmOne K (.ref (P.EC .kind)) cv = some (decide (.kind ∈ cs))) (h3 : PySem.W.exmOne K (.ref (P.EC .block)) cv = some (decide (.block ∈ cs)))
    (h4 : PySem.W.exmOne K (.ref (P.EC .apart)) cv = some (decide (.apart ∈ cs))) (h5 : PySem.W.exmOne K (.ref (P.EC .dry)) cv = some (decide (.dry ∈ cs))) : Catch K P cv cs := fun c => by
  cases c <;> assumption
end
/-- the errors' classes by their places -/
def ecs (a b c d e : Addr) : Exc → Addr
  | .empty => a | .kind => b | .block => c | .apart => d | .dry => e
theorem walkL {l : PySem.W.OpenLaw} {k : Nat} {q : Program} {loose : List Str} {XP : (Str → Option Value) → Heap → Prop} {YP : World → Heap → Prop} {d : DefRec} {K : Params → PySem.W.Frag} {x : Str} (hn : l.most = some 63) (hdf : d.params.defaults = []) (hr : Room k callerA)
    (hY : ∀ (w : World) (h : Heap), YP w h → (K w.params).In h)
    (F : ∀ (w : World) (mg : Str → Option Value) (fa : Addr) (h : Heap), (K w.params).In h → h.Ns mainGlobals mg → mg d.name = some (.ref fa) →
      ∃ fd : FuncData, (∀ (s : Shared) (u : Value), BindsTo s fd ⟨[u], []⟩ [(x, u)]) ∧ ∀ base : Heap, (K w.params).In base → base.Ns mainGlobals mg → FnOk l.prog w (K w.params) mg base (L2.CX l.prog w) k fa fd [x] (spLaw (K w.params))) :
    PySem.W.WalkO q loose XP YP l.row.toRowW d [] (fun f vs => PySem.call f vs) :=
  L2.walk_of (n := 63) (k := k) (x := x) (CX := fun w => L2.CX l.prog w) (sp := fun w => spLaw (K w.params)) hn (by decide) hdf hr hY F (fun _ _ a ns hl _ hS => ⟨a, ns, rfl, hS, hl, fun _ => rfl⟩) fun _ _ _ _ _ ⟨_, _, _, _, _, _, _, _, _, _, _, _, z⟩ => z
end Py

/-! Plain reckoning with the combinators' terms. -/
namespace Py
open PySem L2
/-! ### texts -/
theorem ofString_inj {a b : String} : (Str.ofString a = Str.ofString b) ↔ a = b := by
  refine ⟨fun h => ?_, fun h => by rw [h]⟩
  rw [Str.ofString_eq_toList, Str.ofString_eq_toList] at h
  have h1 : a.toList.map Char.toNat = b.toList.map Char.toNat := by
    have := congrArg (fun s => s.cps.toList) h
    simpa using this
  have h2 : a.toList = b.toList := List.map_inj_right (fun x y e => Char.ext (UInt32.toNat_inj.mp e)) |>.mp h1
  exact String.ext h2
theorem ofString_beq {a b : String} : (Str.ofString a == Str.ofString b) = (a == b) := by
  by_cases h : a = b
  · subst h; simp
  · have h' : ¬ Str.ofString a = Str.ofString b := fun e => h (ofString_inj.mp e)
    rw [beq_eq_false_iff_ne.mpr h', beq_eq_false_iff_ne.mpr h]
theorem strOk_of (a : String) : PyData.strOk (Str.ofString a) = true := by
  rw [Str.ofString_eq_toList]
  unfold PyData.strOk
  rw [← Array.all_toList, List.all_map, List.all_eq_true]
  intro c _
  have := c.valid
  show decide (c.toNat < 0x110000) = true
  rw [decide_eq_true_iff]
  rcases this with h | h
  · have : c.toNat < 0xd800 := h
    omega
  · exact h.2
theorem fine_ofs (a : String) : D.fine (.str (Str.ofString a)) = true := strOk_of a
theorem eqD_ofs (a b : String) : eqD (.str (Str.ofString a)) (.str (Str.ofString b)) = some (a == b) := by
  unfold eqD
  simp only [fine_ofs, D.dep, Nat.zero_le, decide_true, Bool.and_true, if_true, D.eqv, ofString_beq]
theorem atI_0 {α : Type} (x : α) (r : List α) : atI (x :: r) 0 = some x := by
  unfold atI ixN; simp
theorem atI_nat {α : Type} (xs : List α) (n : Nat) : atI xs (n : Int) = xs[n]? := by
  unfold atI ixN
  rw [if_pos (Int.natCast_nonneg n)]
  by_cases h : n < xs.length
  · rw [if_pos (by omega)]; simp
  · rw [if_neg (by omega), List.getElem?_eq_none (by omega)]; rfl
theorem atI_1 {α : Type} (x y : α) (r : List α) : atI (x :: y :: r) 1 = some y := atI_nat (x :: y :: r) 1
theorem atI_2 {α : Type} (x y z : α) (r : List α) : atI (x :: y :: z :: r) 2 = some z := atI_nat (x :: y :: z :: r) 2
theorem eqW_ofs (neg : Bool) (a b : String) (st : Store) : eqW neg (.d (.str (Str.ofString a))) (.d (.str (Str.ofString b))) st = .ok (.d (.bl (if neg then !(a == b) else (a == b)))) st := by
  unfold eqW
  simp only [asD, eqD_ofs]
theorem look_ofs (a b : String) (v : D) (r : List (Str × D)) : look (Str.ofString a) ((Str.ofString b, v) :: r) = if b = a then some v else look (Str.ofString a) r := by
  show (if Str.ofString b = Str.ofString a then some v else look (Str.ofString a) r) = _
  by_cases h : b = a
  · subst h; simp
  · have h' : ¬ Str.ofString b = Str.ofString a := fun e => h (ofString_inj.mp e)
    rw [if_neg h', if_neg h]
/-! ### calls' ends -/
theorem kept_refl (st : Store) : Kept st st := ⟨Nat.le_refl _, fun _ _ _ h => h⟩
theorem fin_same (st : Store) (x : D) : fin st (.d x) st = .ok (.d x) st := by
  unfold fin; rw [if_pos (kept_refl st)]; simp
theorem finE_same (st : Store) (c : Exc) : finE st c st = .err c st := by
  unfold finE; rw [if_pos (kept_refl st)]; simp
theorem fin_new (st : Store) (xs : List D) : fin st (.c st.length) (st ++ [.lst xs]) = .ok (.c st.length) (st ++ [.lst xs]) := by
  unfold fin
  rw [if_pos]
  · simp
  · exact ⟨by simp, fun k fs hk h => by rwa [List.getElem?_append_left hk] at h⟩
/-! ### slices -/
theorem cut_from {α : Type} (xs : List α) (n : Nat) : cut xs (some (n : Int)) none = xs.drop n := by
  unfold cut
  rw [HT.sIx_nat, HT.sIx_none]
  by_cases h : n ≤ xs.length
  · rw [Nat.min_eq_left h, List.take_of_length_le (by rw [List.length_drop]; exact Nat.le_refl _)]
  · rw [Nat.min_eq_right (by omega), List.drop_length, List.drop_of_length_le (by omega), List.take_nil]
theorem cut_to {α : Type} (xs : List α) (n : Nat) : cut xs none (some (n : Int)) = xs.take n := by
  unfold cut
  rw [HT.sIx_nat, HT.sIx_none, List.drop_zero, Nat.sub_zero]
  by_cases h : n ≤ xs.length
  · rw [Nat.min_eq_left h]
  · rw [Nat.min_eq_right (by omega), List.take_length, List.take_of_length_le (by omega)]
theorem cut_neg {α : Type} (xs : List α) (n : Nat) (h : 0 < n) : cut xs none (some (-(n : Int))) = xs.take (xs.length - n) := by
  unfold cut
  rw [HT.sIx_none, List.drop_zero, Nat.sub_zero]
  unfold HT.sIx
  simp only
  rw [if_pos (by omega)]
  congr 1
  omega
theorem atI_neg {α : Type} (xs : List α) (n : Nat) (h : 0 < n) (h2 : n ≤ xs.length) : atI xs (-(n : Int)) = xs[xs.length - n]? := by
  unfold atI ixN
  rw [if_neg (by omega), if_pos (by omega)]
  show xs[(-(n : Int) + xs.length).toNat]? = _
  congr 1
  omega
/-! ### what a value shows -/
theorem tyOf_lst {st : Store} {w : W} {xs : List D} (h : asD st w = some (.lst xs)) : tyOf st w = some "list" := by
  cases w with
  | d x => simp only [asD, Option.some.injEq] at h; subst h; rfl
  | exc => cases h
  | c k =>
    simp only [asD] at h
    simp only [tyOf]
    cases q : st[k]? with
    | none => rw [q] at h; cases h
    | some c =>
      rw [q] at h
      cases c with
      | lst ys => rfl
      | dct _ => simp at h
      | obj _ => simp at h
      | frz d => simp only [Option.some.injEq] at h; subst h; rfl
theorem noExc_of {st : Store} {w : W} {d : D} (h : asD st w = some d) : w.isExc = false := by
  cases w <;> first | rfl | cases h
theorem asD_d (st : Store) (x : D) : asD st (.d x) = some x := rfl
/-! ### loops -/
theorem lcLoop_pure {i : Nat} {c : M Bool} {e : M W} {env : Env} {st : Store} (f : D → D) (p : D → Bool) : ∀ (xs acc : List D), (∀ x ∈ xs, c (env.set i (some (.d x))) st = .ok (p x) st ∧ (p x = true → e (env.set i (some (.d x))) st = .ok (.d (f x)) st)) → acc.length + xs.length ≤ sizeLine →
    lcLoop i c e xs acc env st = .ok (acc ++ (xs.filter p).map f) st
  | [], acc, _, _ => by unfold lcLoop; simp
  | x :: xs, acc, h, hl => by
    obtain ⟨h1, h2⟩ := h x List.mem_cons_self
    have hr := fun y hy => h y (List.mem_cons_of_mem x hy)
    simp only [List.length_cons] at hl
    unfold lcLoop
    rw [h1]
    simp only [noErr_ok, Res.bind_ok]
    cases q : p x with
    | true =>
      rw [h2 q]
      simp only [noErr_ok, Res.bind_ok, toD, asD, frzW, if_true]
      rw [if_pos (by omega), lcLoop_pure f p xs (acc ++ [f x]) hr (by simp; omega), List.filter_cons_of_pos q]
      simp
    | false =>
      simp only [Bool.false_eq_true, if_false]
      rw [lcLoop_pure f p xs acc hr (by omega), List.filter_cons_of_neg (by simp [q])]
theorem lcLoop_map {i : Nat} {e : M W} {env : Env} {st : Store} (f : D → D) (xs : List D) (h : ∀ x ∈ xs, e (env.set i (some (.d x))) st = .ok (.d (f x)) st) (hl : xs.length ≤ sizeLine) :
    lcLoop i yesT e xs [] env st = .ok (xs.map f) st := by
  rw [lcLoop_pure f (fun _ => true) xs [] (fun x hx => ⟨rfl, fun _ => h x hx⟩) (by simpa using hl)]
  rw [List.filter_eq_self.mpr (fun _ _ => rfl)]; rfl
theorem loopS_nx {t : Tgt} {body : MS} {x : D} {xs : List D} {env env1 env' : Env} {st st' : Store} (h1 : setT t x env = some env1) (h2 : body env1 st = .nx env' st') : loopS t body (x :: xs) env st = loopS t body xs env' st' := by
  show (match setT t x env with | some env1 => _ | none => _) = _
  rw [h1]
  show (match body env1 st with | .nx env' st' => _ | r => r) = _
  rw [h2]
theorem loopS_err {t : Tgt} {body : MS} {x : D} {xs : List D} {env env1 env' : Env} {st st' : Store} {c : Exc} (h1 : setT t x env = some env1) (h2 : body env1 st = .err c env' st') : loopS t body (x :: xs) env st = .err c env' st' := by
  show (match setT t x env with | some env1 => _ | none => _) = _
  rw [h1]
  show (match body env1 st with | .nx env' st' => _ | r => r) = _
  rw [h2]
theorem loopS_ret {t : Tgt} {body : MS} {x : D} {xs : List D} {env env1 : Env} {st st' : Store} {w : W} (h1 : setT t x env = some env1) (h2 : body env1 st = .ret w st') : loopS t body (x :: xs) env st = .ret w st' := by
  show (match setT t x env with | some env1 => _ | none => _) = _
  rw [h1]
  show (match body env1 st with | .nx env' st' => _ | r => r) = _
  rw [h2]
/-- a loop that ends early at the first item with p -/
theorem loop_any {t : Tgt} {body : MS} {st : Store} {w : W} (I : Env → Prop) (p : D → Bool) : ∀ (xs : List D) (env : Env), (∀ x ∈ xs, ∀ env, I env → ∃ env1, setT t x env = some env1 ∧ ((p x = true ∧ body env1 st = .ret w st) ∨ (p x = false ∧ ∃ env2, body env1 st = .nx env2 st ∧ I env2))) → I env →
    (xs.any p = true ∧ loopS t body xs env st = .ret w st) ∨ (xs.any p = false ∧ ∃ env', loopS t body xs env st = .nx env' st ∧ I env')
  | [], env, _, hI => .inr ⟨rfl, env, rfl, hI⟩
  | x :: xs, env, h, hI => by
    obtain ⟨env1, h1, h2⟩ := h x List.mem_cons_self env hI
    rcases h2 with ⟨hp, hb⟩ | ⟨hp, env2, hb, hI2⟩
    · exact .inl ⟨by rw [List.any_cons, hp]; rfl, loopS_ret h1 hb⟩
    · rw [loopS_nx h1 hb, List.any_cons, hp, Bool.false_or]
      exact loop_any I p xs env2 (fun y hy => h y (List.mem_cons_of_mem x hy)) hI2
/-- a loop by an invariant over what is left -/
theorem loop_inv {t : Tgt} {body : MS} (I : List D → Env → Store → Prop) : ∀ (xs : List D) (env : Env) (st : Store), (∀ x ys env st, I (x :: ys) env st → ∃ env1 env2 st2, setT t x env = some env1 ∧ body env1 st = .nx env2 st2 ∧ I ys env2 st2) → I xs env st →
    ∃ env' st', loopS t body xs env st = .nx env' st' ∧ I [] env' st'
  | [], env, st, _, hI => ⟨env, st, rfl, hI⟩
  | x :: xs, env, st, h, hI => by
    obtain ⟨env1, env2, st2, h1, h2, h3⟩ := h x xs env st hI
    obtain ⟨env', st', e, r⟩ := loop_inv I xs env2 st2 h h3
    exact ⟨env', st', (loopS_nx h1 h2).trans e, r⟩
def uptoD (n : Nat) : List D := (List.range n).map fun (i : Nat) => .int (i : Int)
theorem mem_upto {n : Nat} {x : D} (h : x ∈ uptoD n) : ∃ i, i < n ∧ x = .int (i : Int) := by
  obtain ⟨i, hi, rfl⟩ := List.mem_map.mp h
  exact ⟨i, List.mem_range.mp hi, rfl⟩
theorem big40 : (1000001 : Int) ≤ 2 ^ 40 := by decide
theorem neg40 : -(2 ^ 40 : Int) ≤ 0 := by decide
theorem rngOk_nat {n : Nat} (hn : n ≤ 900000) : rngOk (n : Int) = true := (rngOk_iff _).mpr
  ⟨Int.le_trans neg40 (Int.natCast_nonneg n), Int.lt_of_lt_of_le (Int.lt_add_one_of_le (Int.le_trans (Int.ofNat_le.mpr hn) (by decide : ((900000 : Nat) : Int) ≤ 1000000))) big40⟩
theorem rng_ok (a : M W) (env : Env) (st st' : Store) (n : Nat) (ha : a env st = .ok (.d (.int (n : Int))) st') (hn : n ≤ 900000) : rngM a env st = .ok (uptoD n) st' := by
  unfold rngM
  rw [ha, Res.bind_ok, asD_d]
  simp only [rngOk_nat hn, if_true, Int.toNat_natCast]
  rfl
theorem big63 : (1000002 : Int) ≤ 2 ^ 63 := by decide
theorem neg63 : -(2 ^ 63 : Int) ≤ 0 := by decide
theorem repOk_nat {n : Nat} (hn : n ≤ 900000) : repOk (n : Int) = true := (repOk_iff _).mpr
  ⟨Int.le_trans neg63 (Int.natCast_nonneg n), Int.lt_of_lt_of_le (Int.lt_add_one_of_le (Int.le_trans (Int.ofNat_le.mpr hn) (by decide : ((900000 : Nat) : Int) ≤ 1000001))) big63⟩
theorem big64 : (1000000000000001 : Int) ≤ 2 ^ 64 := by decide
theorem neg64 : -(2 ^ 64 : Int) < 0 := by decide
theorem mulOk_l {i j : Int} (h : 0 ≤ i) (h2 : i ≤ 1000000000000000) : mulOk i j = true := (mulOk_iff _ _).mpr (.inl ⟨Int.lt_of_lt_of_le neg64 h, Int.lt_of_lt_of_le (Int.lt_add_one_of_le h2) big64⟩)
theorem mulOk_r {i j : Int} (h : 0 ≤ j) (h2 : j ≤ 1000000000000000) : mulOk i j = true := (mulOk_iff _ _).mpr (.inr ⟨Int.lt_of_lt_of_le neg64 h, Int.lt_of_lt_of_le (Int.lt_add_one_of_le h2) big64⟩)
theorem strOk9_of {i : Int} (h : 0 ≤ i) (h2 : i < 1000000000000000) : strOk9 i = true := (strOk9_iff _).mpr (by
  have : i.natAbs < 2 ^ 50 := by omega
  exact Nat.lt_trans this (Nat.pow_lt_pow_right (by decide) (by decide)))
theorem tupOk_of {k : Int} (h : 1 ≤ k) (h2 : k ≤ 1000) : tupOk k = true := (tupOk_iff _).mpr ⟨h, h2⟩
theorem fdvOk_of {k : Int} (h : 0 < k) (h2 : k < 1073741824) : fdvOk k = true := (fdvOk_iff _).mpr ⟨h, h2⟩
theorem powOk_109 : powOk 10 9 = true := (powOk_iff _ _).mpr (by decide)
theorem look_nil (k : Str) : look k [] = none := rfl
theorem asD_app {st : Store} {w : W} {d : D} (h : asD st w = some d) (e : List Cell) : asD (st ++ e) w = some d := by
  cases w with
  | d x => exact h
  | exc => exact h
  | c k =>
    simp only [asD] at h ⊢
    by_cases hk : k < st.length
    · rw [List.getElem?_append_left hk]; exact h
    · rw [List.getElem?_eq_none (by omega)] at h; cases h
theorem get_new (st : Store) (c : Cell) : (st ++ [c])[st.length]? = some c := by simp
theorem set_new (st : Store) (c c' : Cell) : (st ++ [c]).set st.length c' = st ++ [c'] := by simp
theorem asD_new (st : Store) (xs : List D) : asD (st ++ [.lst xs]) (.c st.length) = some (.lst xs) := by simp [asD]
theorem isLst_new (st : Store) (xs : List D) : isLst (.c st.length) (st ++ [.lst xs]) = true := by unfold isLst; rw [asD_new]
theorem pow109 (st : Store) : powW (.d (.int 10)) (.d (.int 9)) st = .ok (.d (.int 1000000000)) st := by
  unfold powW
  simp only [asD_d, powOk_109, if_true]
  rfl
theorem items_dl (xs : List D) (st : Store) : itemsW (.d (.lst xs)) st = .ok xs st := rfl
theorem items_dt (xs : List D) (st : Store) : itemsW (.d (.tup xs)) st = .ok xs st := rfl
theorem szs : 0 ≤ sizeLine ∧ 1 ≤ sizeLine ∧ 2 ≤ sizeLine ∧ 3 ≤ sizeLine ∧ 4 ≤ sizeLine ∧ 5 ≤ sizeLine ∧ 6 ≤ sizeLine ∧ 7 ≤ sizeLine ∧ 8 ≤ sizeLine ∧ 9 ≤ sizeLine ∧ 10 ≤ sizeLine ∧ 11 ≤ sizeLine ∧ 12 ≤ sizeLine ∧ 13 ≤ sizeLine ∧ 14 ≤ sizeLine ∧ 15 ≤ sizeLine ∧ 16 ≤ sizeLine ∧ 17 ≤ sizeLine ∧ 18 ≤ sizeLine ∧ 19 ≤ sizeLine ∧ 20 ≤ sizeLine := by decide
theorem frzW_d (x d : D) (st : Store) : frzW (.d x) d st = st := rfl
theorem isExc_d (x : D) : (W.d x).isExc = false := rfl
theorem isExc_c (k : Nat) : (W.c k).isExc = false := rfl
theorem isNon_d (x : D) : (W.d x).isNon = match x with | .non => true | _ => false := by cases x <;> rfl
end Py

/-! From the top's facts: methods. -/
namespace Py
open PySem L2 PySem.Spec PyProof.Rows
section
variable {Pg : Program} {w : World} {K : PySem.W.Frag} {mg : Str → Option Value} {base h : Heap} {P : Pm}
def MethAt (K : PySem.W.Frag) (C : Addr) (m qual : Str) (st : Stmt) (ps : List Str) : Prop := ∃ (f : Addr) (fd : FuncData), L2.Fun K m qual st f fd ∧ PySem.W.findIn K (.ref C) m = some (some (.ref f)) ∧ PySem.W.isFn K (.ref f) = true ∧ PySem.W.keepIn K (.ref f) = true ∧ Binds K fd ps []
theorem meth_mk {C : Addr} {m qual : Str} {st : Stmt} {ps : List Str} {f : Addr} {oc : Value} {od an : Option Addr} {osl : Array (Option Value)} {kV dc pm cd ct : Value}
    (a : PySem.W.findIn K (.ref C) m = some (some (.ref f))) (l : K.lookup f = some ⟨oc, od, .func (PySem.W.fnOf m qual (defArgs st) (defBody st) (defScope st) .none kV dc pm an cd ct), osl⟩) (i : PySem.W.isFn K (.ref f) = true) (c : PySem.W.codeIn K cd qual = true) (k : PySem.W.keepIn K (.ref f) = true)
    (hb : ∀ (kV doc pm : Value) (an : Option Addr) (cdv ct : Value) (us : List Value), us.length = ps.length → bindArgs (PySem.W.fnOf m qual (defArgs st) (defBody st) (defScope st) .none kV doc pm an cdv ct) ⟨us, []⟩ = pure (ps.zip us)) : MethAt K C m qual st ps :=
  ⟨f, _, fun_mk (st := st) l c k, a, i, k, (fun_mk (st := st) l c k).binds hb⟩
theorem calm_mk {m qual : Str} {st : Stmt} {ps : List Str} {n k : Nat} {F : Fn} (D : MethAt K P.CM m qual st ps) (hd : ∀ {f : Addr} {fd : FuncData}, L2.Fun K m qual st f fd → FnOk Pg w K mg base (L2.CX Pg w) k f fd ps (spF K P n F)) : CalM Pg w K mg base P m n k F := by
  obtain ⟨f, fd, hF, h1, h2, h3, hb⟩ := D
  exact ⟨⟨f, fd, ps, hd hF, h1, h2, h3, hb⟩⟩
theorem cali_mk {qual : Str} {st : Stmt} {ps : List Str} {n k : Nat} {F : Fn} (D : MethAt K P.CM "__init__" qual st ps) (hm : PySem.W.makesIn K P.CM = true) (hk : PySem.W.keepIn K (.ref P.CM) = true)
    (hd : ∀ {f : Addr} {fd : FuncData}, L2.Fun K "__init__" qual st f fd → FnOk Pg w K mg base (L2.CX Pg w) k f fd ps (spF K P n F)) : CalI Pg w K mg base P n k F := by
  obtain ⟨f, fd, hF, h1, h2, h3, hb⟩ := D
  exact ⟨⟨f, ⟨hm, h1, h2, hk⟩, fd, ps, hd hF, hb⟩⟩
end
end Py

namespace Py
open PySem L2 PySem.Spec PyProof.Rows
def T_WANTS : List (Str × D) := [("num", .tup []), ("text", .tup []), ("add", .tup [.str "num", .str "num"]), ("mul", .tup [.str "num", .str "num"]), ("less", .tup [.str "num", .str "num"]), ("join", .tup [.str "text", .str "text"]), ("long", .tup [.str "text"]), ("show", .tup [.str "num"]), ("swap", .tup [.non, .non]), ("drop", .tup [.non])]
def T_PUTS : List (Str × D) := [("num", .tup [.str "num"]), ("text", .tup [.str "text"]), ("add", .tup [.str "num"]), ("mul", .tup [.str "num"]), ("less", .tup [.str "num"]), ("join", .tup [.str "text"]), ("long", .tup [.str "num"]), ("show", .tup [.str "text"])]
abbrev n_draw : List Str := ["_law_script", "_law_tape", "_law_many", "_law_seed", "_law_cell"]
noncomputable def b_draw : MS := (seqM (setLM (varM 1) (conM (.int 0)) (binM (addW false) (binM ixW (varM 1) (conM (.int 0))) (conM (.int 1))))
 (seqM (ifM (tvM (binM leW (binM ixW (varM 1) (conM (.int 0))) (appM (app1 lenW) (consA (varM 0) nilA))))
 (retM (binM modW (binM ixW (varM 0) (binM subW (binM ixW (varM 1) (conM (.int 0))) (conM (.int 1)))) (varM 2)))
 passS)
 (seqM (asgM 3 (appM (app1 lenW) (consA (varM 0) nilA)))
 (seqM (forM (itM (slM false (varM 0) noneO (someO (conM (.int 4))))) (.name 4)
 (asgM 3 (binM modW (binM (addW false) (binM (mulW false) (varM 3) (conM (.int 131))) (varM 4)) (conM (.int 1000003)))))
 (retM (binM modW (binM modW (binM (mulW false) (binM (addW false) (varM 3) (conM (.int 7))) (binM (addW false) (binM (mulW false) (binM ixW (varM 1) (conM (.int 0))) (binM ixW (varM 1) (conM (.int 0)))) (conM (.int 48271)))) (conM (.int 1000003))) (varM 2)))))))
noncomputable def s_draw : Fn := fnM 3 5 b_draw
theorem A_draw : Ar 3 s_draw := ar_fn
abbrev n_words : List Str := ["_law_cell", "_law_size", "_law_signs", "_law_k"]
noncomputable def b_words : MS := (seqM (asgM 2 (conM (.str "abcdefghijklmnopqrstuvwxyzABCDEFGHIJKLMNOPQRSTUVWXYZ0123456789")))
 (seqM (asgM 2 (binM (addW false) (varM 2) (conM (.str " .,;:!?'\"()[]{}<>+-*/=&|^~_#$@\\`"))))
 (retM (unM (joinS "") (lcM false (rngM (varM 1)) 3 yesT (binM ixW (varM 2) (binM modW (binM (addW false) (binM fdivW (varM 0) (binM (addW false) (varM 3) (conM (.int 1)))) (binM (mulW false) (conM (.int 5)) (varM 3))) (conM (.int 94)))))))))
noncomputable def s_words : Fn := fnM 2 4 b_words
theorem A_words : Ar 2 s_words := ar_fn
abbrev n_value : List Str := ["_law_script", "_law_tape", "_law_kind", "_law_cell", "_law_way"]
noncomputable def b_value : MS := (seqM (asgM 3 (callF s_draw (consA (varM 0) (consA (varM 1) (consA (conM (.int 1000000000)) nilA)))))
 (seqM (asgM 4 (callF s_draw (consA (varM 0) (consA (varM 1) (consA (conM (.int 6)) nilA)))))
 (seqM (ifM (tvM (binM (eqW false) (varM 2) (conM (.str "text"))))
 (seqM (ifM (tvM (binM (eqW false) (varM 4) (conM (.int 0))))
 (retM (callF s_words (consA (varM 3) (consA (binM (addW false) (conM (.int 58)) (binM modW (varM 3) (conM (.int 3)))) nilA))))
 passS)
 (retM (callF s_words (consA (varM 3) (consA (binM modW (binM fdivW (varM 3) (conM (.int 94))) (conM (.int 8))) nilA)))))
 passS)
 (seqM (ifM (tvM (binM (eqW false) (varM 4) (conM (.int 0))))
 (retM (binM subW (conM (.int 999999999)) (binM modW (varM 3) (conM (.int 3)))))
 passS)
 (seqM (ifM (tvM (binM ltW (varM 4) (conM (.int 3))))
 (retM (binM modW (varM 3) (conM (.int 4))))
 passS)
 (retM (varM 3)))))))
noncomputable def s_value : Fn := fnM 3 5 b_value
theorem A_value : Ar 3 s_value := ar_fn
abbrev n_stack : List Str := ["_law_script", "_law_tape", "_law_row", "_law_size", "_law_stack_here", "_law_k", "_law_kind"]
abbrev n_p_wants : List Str := ["row"]
noncomputable def b_p_wants : MS := (seqM (ifM (tvM (binM (eqW false) (binM ixW (varM 0) (conM (.int 0))) (conM (.str "copy"))))
 (retM (binM (mulW false) (tupM (consA (conM .non) nilA)) (binM (addW false) (binM ixW (varM 0) (conM (.int 1))) (conM (.int 1)))))
 passS)
 (retM (unM (tabW T_WANTS) (binM ixW (varM 0) (conM (.int 0))))))
noncomputable def s_p_wants : Fn := fnM 1 1 b_p_wants
theorem A_p_wants : Ar 1 s_p_wants := ar_fn
abbrev n_p_need : List Str := ["kinds", "wanted", "kind", "want"]
noncomputable def b_p_need : MS := (seqM (ifM (tvM (binM ltW (appM (app1 lenW) (consA (varM 0) nilA)) (appM (app1 lenW) (consA (varM 1) nilA))))
 (raiseM .empty)
 passS)
 (forM (zipM2 (slM false (varM 0) (someO (binM subW (appM (app1 lenW) (consA (varM 0) nilA)) (appM (app1 lenW) (consA (varM 1) nilA)))) noneO) (varM 1)) (.pair 2 3)
 (ifM (andT (tvM (binM (isNonB true) (varM 3) (conM .non))) (tvM (binM (eqW true) (varM 2) (varM 3))))
 (raiseM .kind)
 passS)))
noncomputable def s_p_need : Fn := fnM 2 4 b_p_need
theorem A_p_need : Ar 2 s_p_need := ar_fn
abbrev n_p_kind_of : List Str := ["value"]
noncomputable def b_p_kind_of : MS := (seqM (ifM (tvM (unM (isi1 "str") (varM 0)))
 (retM (conM (.str "text")))
 passS)
 (retM (conM (.str "num"))))
noncomputable def s_p_kind_of : Fn := fnM 1 1 b_p_kind_of
theorem A_p_kind_of : Ar 1 s_p_kind_of := ar_fn
abbrev n_p_kinds_of : List Str := ["stack", "value"]
noncomputable def b_p_kinds_of : MS := (retM (appM (app1 tupleW) (consA (lcM false (itM (varM 0)) 1 yesT (callF s_p_kind_of (consA (varM 1) nilA))) nilA)))
noncomputable def s_p_kinds_of : Fn := fnM 1 2 b_p_kinds_of
theorem A_p_kinds_of : Ar 1 s_p_kinds_of := ar_fn
abbrev n_p_reckoned : List Str := ["row", "low", "top"]
noncomputable def b_p_reckoned : MS := (seqM (ifM (tvM (binM (eqW false) (binM ixW (varM 0) (conM (.int 0))) (conM (.str "add"))))
 (retM (binM modW (binM (addW false) (varM 1) (varM 2)) (conM (.int 1000000000))))
 passS)
 (seqM (ifM (tvM (binM (eqW false) (binM ixW (varM 0) (conM (.int 0))) (conM (.str "mul"))))
 (retM (binM modW (binM (mulW false) (varM 1) (varM 2)) (conM (.int 1000000000))))
 passS)
 (seqM (ifM (tvM (binM (eqW false) (binM ixW (varM 0) (conM (.int 0))) (conM (.str "less"))))
 (retM (appM (app1 intW) (consA (binM ltW (varM 1) (varM 2)) nilA)))
 passS)
 (retM (slM false (binM (addW false) (varM 1) (varM 2)) noneO (someO (conM (.int 60))))))))
noncomputable def s_p_reckoned : Fn := fnM 3 3 b_p_reckoned
theorem A_p_reckoned : Ar 3 s_p_reckoned := ar_fn
abbrev n_p_done : List Str := ["stack", "row", "wanted"]
noncomputable def b_p_done : MS := (seqM (asgM 2 (callF s_p_wants (consA (varM 1) nilA)))
 (seqM (expM (callF s_p_need (consA (callF s_p_kinds_of (consA (slM false (varM 0) (someO (appM (app2 maxW) (consA (conM (.int 0)) (consA (binM subW (appM (app1 lenW) (consA (varM 0) nilA)) (appM (app1 lenW) (consA (varM 2) nilA))) nilA)))) noneO) nilA)) (consA (varM 2) nilA))))
 (seqM (ifM (orT (tvM (binM (eqW false) (binM ixW (varM 1) (conM (.int 0))) (conM (.str "num")))) (tvM (binM (eqW false) (binM ixW (varM 1) (conM (.int 0))) (conM (.str "text")))))
 (retM (binM (addW true) (varM 0) (lstM false (consA (binM ixW (varM 1) (conM (.int 1))) nilA))))
 passS)
 (seqM (ifM (tvM (binM (eqW false) (binM ixW (varM 1) (conM (.int 0))) (conM (.str "copy"))))
 (retM (binM (addW true) (varM 0) (lstM false (consA (binM ixW (varM 0) (binM subW (binM subW (appM (app1 lenW) (consA (varM 0) nilA)) (conM (.int 1))) (binM ixW (varM 1) (conM (.int 1))))) nilA))))
 passS)
 (seqM (ifM (tvM (binM (eqW false) (binM ixW (varM 1) (conM (.int 0))) (conM (.str "drop"))))
 (retM (slM true (varM 0) noneO (someO (unM negW (conM (.int 1))))))
 passS)
 (seqM (ifM (tvM (binM (eqW false) (binM ixW (varM 1) (conM (.int 0))) (conM (.str "long"))))
 (retM (binM (addW true) (slM false (varM 0) noneO (someO (unM negW (conM (.int 1))))) (lstM false (consA (appM (app1 lenW) (consA (binM ixW (varM 0) (unM negW (conM (.int 1)))) nilA)) nilA))))
 passS)
 (seqM (ifM (tvM (binM (eqW false) (binM ixW (varM 1) (conM (.int 0))) (conM (.str "show"))))
 (retM (binM (addW true) (slM false (varM 0) noneO (someO (unM negW (conM (.int 1))))) (lstM false (consA (appM (app1 strW) (consA (binM ixW (varM 0) (unM negW (conM (.int 1)))) nilA)) nilA))))
 passS)
 (seqM (ifM (tvM (binM (eqW false) (binM ixW (varM 1) (conM (.int 0))) (conM (.str "swap"))))
 (retM (binM (addW true) (slM false (varM 0) noneO (someO (unM negW (conM (.int 2))))) (lstM false (consA (binM ixW (varM 0) (unM negW (conM (.int 1)))) (consA (binM ixW (varM 0) (unM negW (conM (.int 2)))) nilA)))))
 passS)
 (retM (binM (addW true) (slM false (varM 0) noneO (someO (unM negW (conM (.int 2))))) (lstM false (consA (callF s_p_reckoned (consA (varM 1) (consA (binM ixW (varM 0) (unM negW (conM (.int 2)))) (consA (binM ixW (varM 0) (unM negW (conM (.int 1)))) nilA)))) nilA))))))))))))
noncomputable def s_p_done : Fn := fnM 2 3 b_p_done
theorem A_p_done : Ar 2 s_p_done := ar_fn
abbrev n_alike : List Str := ["_law_found", "_law_due", "_law_k"]
noncomputable def b_alike : MS := (seqM (ifM (orT (notT (tvM (unM (isi1 "list") (varM 0)))) (tvM (binM (eqW true) (appM (app1 lenW) (consA (varM 0) nilA)) (appM (app1 lenW) (consA (varM 1) nilA)))))
 (retM (conM (.bl false)))
 passS)
 (seqM (forM (rngM (appM (app1 lenW) (consA (varM 1) nilA))) (.name 2)
 (seqM (ifM (tvM (binM (eqW true) (unM (isi1 "str") (binM ixW (varM 1) (varM 2))) (unM (isi1 "str") (binM ixW (varM 0) (varM 2)))))
 (retM (conM (.bl false)))
 passS)
 (ifM (andT (notT (tvM (unM (isi1 "str") (binM ixW (varM 1) (varM 2))))) (orT (tvM (unM (isi1 "bool") (binM ixW (varM 0) (varM 2)))) (notT (tvM (unM (isi1 "int") (binM ixW (varM 0) (varM 2)))))))
 (retM (conM (.bl false)))
 passS)))
 (retM (binM (eqW false) (varM 0) (varM 1)))))
noncomputable def s_alike : Fn := fnM 2 3 b_alike
theorem A_alike : Ar 2 s_alike := ar_fn
abbrev n_p_plainly : List Str := ["kinds", "row", "wanted", "left"]
noncomputable def b_p_plainly : MS := (seqM (asgM 2 (callF s_p_wants (consA (varM 1) nilA)))
 (seqM (expM (callF s_p_need (consA (varM 0) (consA (varM 2) nilA))))
 (seqM (ifM (tvM (binM (eqW false) (binM ixW (varM 1) (conM (.int 0))) (conM (.str "copy"))))
 (retM (binM (addW false) (varM 0) (tupM (consA (binM ixW (varM 0) (binM subW (binM subW (appM (app1 lenW) (consA (varM 0) nilA)) (conM (.int 1))) (binM ixW (varM 1) (conM (.int 1))))) nilA))))
 passS)
 (seqM (asgM 3 (slM false (varM 0) noneO (someO (binM subW (appM (app1 lenW) (consA (varM 0) nilA)) (appM (app1 lenW) (consA (varM 2) nilA))))))
 (seqM (ifM (tvM (binM (eqW false) (binM ixW (varM 1) (conM (.int 0))) (conM (.str "drop"))))
 (retM (varM 3))
 passS)
 (seqM (ifM (tvM (binM (eqW false) (binM ixW (varM 1) (conM (.int 0))) (conM (.str "swap"))))
 (retM (binM (addW false) (varM 3) (tupM (consA (binM ixW (varM 0) (unM negW (conM (.int 1)))) (consA (binM ixW (varM 0) (unM negW (conM (.int 2)))) nilA)))))
 passS)
 (retM (binM (addW false) (varM 3) (unM (tabW T_PUTS) (binM ixW (varM 1) (conM (.int 0))))))))))))
noncomputable def s_p_plainly : Fn := fnM 2 4 b_p_plainly
theorem A_p_plainly : Ar 2 s_p_plainly := ar_fn
abbrev n_p_called : List Str := ["kinds", "block"]
noncomputable def b_p_called : MS := (seqM (expM (callF s_p_need (consA (varM 0) (consA (binM ixW (varM 1) (conM (.int 0))) nilA))))
 (retM (binM (addW false) (slM false (varM 0) noneO (someO (binM subW (appM (app1 lenW) (consA (varM 0) nilA)) (appM (app1 lenW) (consA (binM ixW (varM 1) (conM (.int 0))) nilA))))) (binM ixW (varM 1) (conM (.int 1))))))
noncomputable def s_p_called : Fn := fnM 2 2 b_p_called
theorem A_p_called : Ar 2 s_p_called := ar_fn
abbrev n_p_block_of : List Str := ["program", "name"]
noncomputable def b_p_block_of : MS := (seqM (ifM (tvM (binM (inW true) (varM 1) (varM 0)))
 (raiseM .block)
 passS)
 (retM (binM ixW (varM 0) (varM 1))))
noncomputable def s_p_block_of : Fn := fnM 2 2 b_p_block_of
theorem A_p_block_of : Ar 2 s_p_block_of := ar_fn
abbrev n_p_behind : List Str := ["program", "kinds", "row", "yes", "no"]
noncomputable def b_p_behind : MS := (seqM (ifM (tvM (binM (eqW false) (binM ixW (varM 2) (conM (.int 0))) (conM (.str "call"))))
 (retM (callF s_p_called (consA (varM 1) (consA (callF s_p_block_of (consA (varM 0) (consA (binM ixW (varM 2) (conM (.int 1))) nilA))) nilA))))
 passS)
 (seqM (ifM (tvM (binM (eqW false) (binM ixW (varM 2) (conM (.int 0))) (conM (.str "if"))))
 (seqM (expM (callF s_p_need (consA (varM 1) (consA (tupM (consA (conM (.str "num")) nilA)) nilA))))
 (seqM (asgM 3 (callF s_p_block_of (consA (varM 0) (consA (binM ixW (varM 2) (conM (.int 1))) nilA))))
 (seqM (asgM 4 (callF s_p_block_of (consA (varM 0) (consA (binM ixW (varM 2) (conM (.int 2))) nilA))))
 (seqM (ifM (orT (tvM (binM (eqW true) (binM ixW (varM 3) (conM (.int 0))) (binM ixW (varM 4) (conM (.int 0))))) (tvM (binM (eqW true) (binM ixW (varM 3) (conM (.int 1))) (binM ixW (varM 4) (conM (.int 1))))))
 (raiseM .apart)
 passS)
 (retM (callF s_p_called (consA (slM false (varM 1) noneO (someO (unM negW (conM (.int 1))))) (consA (varM 3) nilA))))))))
 passS)
 (retM (callF s_p_plainly (consA (varM 1) (consA (varM 2) nilA))))))
noncomputable def s_p_behind : Fn := fnM 3 5 b_p_behind
theorem A_p_behind : Ar 3 s_p_behind := ar_fn
noncomputable def b_tuple : MS := (seqM (ifM (orT (notT (tvM (unM (isi1 "tuple") (varM 0)))) (tvM (binM (eqW true) (appM (app1 lenW) (consA (varM 0) nilA)) (appM (app1 lenW) (consA (varM 1) nilA)))))
 (retM (conM (.bl false)))
 passS)
 (seqM (forM (rngM (appM (app1 lenW) (consA (varM 1) nilA))) (.name 2)
 (ifM (orT (notT (tvM (unM (isi1 "str") (binM ixW (varM 0) (varM 2))))) (tvM (binM (eqW true) (binM ixW (varM 0) (varM 2)) (binM ixW (varM 1) (varM 2)))))
 (retM (conM (.bl false)))
 passS))
 (retM (conM (.bl true)))))
abbrev n_program : List Str := ["_law_script", "_law_tape", "_law_count", "_law_program_here", "_law_kept", "_law_begin", "_law_midst", "_law_k", "_law_name", "_law_way"]
abbrev n_p_went : List Str := ["program", "name", "ins", "outs", "rows", "trail", "row"]
noncomputable def b_p_went : MS := (seqM (asgTM [2, 3, 4] (binM ixW (varM 0) (varM 1)))
 (seqM (asgM 5 (lstM true (consA (varM 2) nilA)))
 (seqM (forM (itM (varM 4)) (.name 6)
 (tryM (expM (methL (arg1 appendW) (varM 5) (consA (callF s_p_behind (consA (varM 0) (consA (binM ixW (varM 5) (unM negW (conM (.int 1)))) (consA (varM 6) nilA)))) nilA))) [([.empty], (retM (tupM (consA (varM 5) (consA (conM (.str "empty")) nilA))))), ([.kind], (retM (tupM (consA (varM 5) (consA (conM (.str "kind")) nilA))))), ([.block], (retM (tupM (consA (varM 5) (consA (conM (.str "block")) nilA))))), ([.apart], (retM (tupM (consA (varM 5) (consA (conM (.str "apart")) nilA)))))]))
 (seqM (ifM (tvM (binM (eqW true) (binM ixW (varM 5) (unM negW (conM (.int 1)))) (varM 3)))
 (retM (tupM (consA (varM 5) (consA (conM (.str "end")) nilA))))
 passS)
 (retM (tupM (consA (varM 5) (consA (conM .non) nilA))))))))
noncomputable def s_p_went : Fn := fnM 2 7 b_p_went
theorem A_p_went : Ar 2 s_p_went := ar_fn
abbrev n_p_trail_of : List Str := ["program", "name", "trail", "word"]
noncomputable def b_p_trail_of : MS := (seqM (asgTM [2, 3] (callF s_p_went (consA (varM 0) (consA (varM 1) nilA))))
 (seqM (ifM (tvM (binM (isNonB false) (varM 3) (conM .non)))
 (retM (varM 2))
 passS)
 (retM (conM .non))))
noncomputable def s_p_trail_of : Fn := fnM 2 4 b_p_trail_of
theorem A_p_trail_of : Ar 2 s_p_trail_of := ar_fn
abbrev n_p_fault : List Str := ["program", "name", "trail", "word"]
noncomputable def b_p_fault : MS := (seqM (asgTM [2, 3] (callF s_p_went (consA (varM 0) (consA (varM 1) nilA))))
 (seqM (ifM (tvM (binM (isNonB false) (varM 3) (conM .non)))
 (retM (conM .non))
 passS)
 (retM (tupM (consA (binM subW (appM (app1 lenW) (consA (varM 2) nilA)) (conM (.int 1))) (consA (varM 3) nilA))))))
noncomputable def s_p_fault : Fn := fnM 2 4 b_p_fault
theorem A_p_fault : Ar 2 s_p_fault := ar_fn
abbrev n_p_named : List Str := ["block", "found", "row"]
noncomputable def b_p_named : MS := (seqM (asgM 1 (lstM true nilA))
 (seqM (forM (itM (binM ixW (varM 0) (conM (.int 2)))) (.name 2)
 (ifM (orT (tvM (binM (eqW false) (binM ixW (varM 2) (conM (.int 0))) (conM (.str "call")))) (tvM (binM (eqW false) (binM ixW (varM 2) (conM (.int 0))) (conM (.str "if")))))
 (expM (methL (arg1 extendW) (varM 1) (consA (slM false (varM 2) (someO (conM (.int 1))) noneO) nilA)))
 passS))
 (retM (varM 1))))
noncomputable def s_p_named : Fn := fnM 1 3 b_p_named
theorem A_p_named : Ar 1 s_p_named := ar_fn
abbrev n_p_reached : List Str := ["program", "name", "found", "waiting", "other"]
noncomputable def b_p_reached : MS := (seqM (asgM 2 (lstM true nilA))
 (seqM (asgM 3 (callF s_p_named (consA (binM ixW (varM 0) (varM 1)) nilA)))
 (seqM (whileM (truM (varM 3))
 (seqM (asgM 4 (methL (arg0 popW) (varM 3) nilA))
 (ifM (tvM (binM (inW true) (varM 4) (varM 2)))
 (seqM (expM (methL (arg1 appendW) (varM 2) (consA (varM 4) nilA)))
 (ifM (tvM (binM (inW false) (varM 4) (varM 0)))
 (expM (methL (arg1 extendW) (varM 3) (consA (frM (callF s_p_named (consA (binM ixW (varM 0) (varM 4)) nilA))) nilA)))
 passS))
 passS)) 1000000)
 (retM (varM 2)))))
noncomputable def s_p_reached : Fn := fnM 2 5 b_p_reached
theorem A_p_reached : Ar 2 s_p_reached := ar_fn
abbrev n_p_let_by : List Str := ["program", "name", "other"]
noncomputable def b_p_let_by : MS := (seqM (ifM (tvM (binM (inW true) (varM 1) (varM 0)))
 (retM (conM (.bl false)))
 passS)
 (seqM (forM (itM (binM (addW false) (lstM false (consA (varM 1) nilA)) (frM (callF s_p_reached (consA (varM 0) (consA (varM 1) nilA)))))) (.name 2)
 (ifM (orT (tvM (binM (inW true) (varM 2) (varM 0))) (tvM (binM (isNonB true) (callF s_p_fault (consA (varM 0) (consA (varM 2) nilA))) (conM .non))))
 (retM (conM (.bl false)))
 passS))
 (retM (conM (.bl true)))))
noncomputable def s_p_let_by : Fn := fnM 2 3 b_p_let_by
theorem A_p_let_by : Ar 2 s_p_let_by := ar_fn
abbrev n_m_leave : List Str := ["self"]
noncomputable def b_m_leave : MS := (whileM (andT (truM (unM (fldW "frames") (varM 0))) (tvM (binM (eqW false) (binM ixW (binM ixW (unM (fldW "frames") (varM 0)) (unM negW (conM (.int 1)))) (conM (.int 1))) (appM (app1 lenW) (consA (binM ixW (binM ixW (unM (fldW "program") (varM 0)) (binM ixW (binM ixW (unM (fldW "frames") (varM 0)) (unM negW (conM (.int 1)))) (conM (.int 0)))) (conM (.int 2))) nilA)))))
 (expM (methL (arg0 popW) (unM (fldW "frames") (varM 0)) nilA)) 1000000)
noncomputable def s_m_leave : Fn := rawM 1 1 b_m_leave
theorem A_m_leave : Ar 1 s_m_leave := ar_raw
abbrev n_m_init : List Str := ["self", "program", "name", "stack"]
noncomputable def b_m_init : MS := (seqM (expM (callF s_p_block_of (consA (varM 1) (consA (varM 2) nilA))))
 (seqM (setFM "program" (varM 0) (varM 1))
 (seqM (setFM "stack" (varM 0) (appM (app1 (listW true)) (consA (varM 3) nilA)))
 (seqM (setFM "frames" (varM 0) (lstM true (consA (tupM (consA (varM 2) (consA (conM (.int 0)) nilA))) nilA)))
 (expM (methM "leave" s_m_leave (varM 0)))))))
noncomputable def s_m_init : Fn := rawM 4 4 b_m_init
theorem A_m_init : Ar 4 s_m_init := ar_raw
abbrev n_m_over : List Str := ["self"]
noncomputable def b_m_over : MS := (retM (binM (eqW false) (appM (app1 lenW) (consA (unM (fldW "frames") (varM 0)) nilA)) (conM (.int 0))))
noncomputable def s_m_over : Fn := rawM 1 1 b_m_over
theorem A_m_over : Ar 1 s_m_over := ar_raw
abbrev n_m_step : List Str := ["self", "name", "place", "row", "left", "entered", "other"]
noncomputable def b_m_step : MS := (seqM (ifM (tvM (methM "over" s_m_over (varM 0)))
 retN
 passS)
 (seqM (asgTM [1, 2] (binM ixW (unM (fldW "frames") (varM 0)) (unM negW (conM (.int 1)))))
 (seqM (asgM 3 (binM ixW (binM ixW (binM ixW (unM (fldW "program") (varM 0)) (varM 1)) (conM (.int 2))) (varM 2)))
 (seqM (asgM 4 (unM (fldW "stack") (varM 0)))
 (seqM (asgM 5 (lstM false nilA))
 (seqM (ifM (tvM (binM (eqW false) (binM ixW (varM 3) (conM (.int 0))) (conM (.str "call"))))
 (asgM 5 (lstM false (consA (binM ixW (varM 3) (conM (.int 1))) nilA)))
 (ifM (tvM (binM (eqW false) (binM ixW (varM 3) (conM (.int 0))) (conM (.str "if"))))
 (seqM (expM (callF s_p_need (consA (callF s_p_kinds_of (consA (slM false (varM 4) (someO (unM negW (conM (.int 1)))) noneO) nilA)) (consA (tupM (consA (conM (.str "num")) nilA)) nilA))))
 (seqM (asgM 5 (lstM false (consA (binM ixW (varM 3) (binM (addW false) (conM (.int 1)) (appM (app1 intW) (consA (binM (eqW false) (binM ixW (varM 4) (unM negW (conM (.int 1)))) (conM (.int 0))) nilA)))) nilA)))
 (asgM 4 (slM true (varM 4) noneO (someO (unM negW (conM (.int 1))))))))
 (asgM 4 (callF s_p_done (consA (varM 4) (consA (varM 3) nilA))))))
 (seqM (forM (itM (varM 5)) (.name 6)
 (expM (callF s_p_block_of (consA (unM (fldW "program") (varM 0)) (consA (varM 6) nilA)))))
 (seqM (setFM "stack" (varM 0) (varM 4))
 (seqM (setLM (unM (fldW "frames") (varM 0)) (unM negW (conM (.int 1))) (tupM (consA (varM 1) (consA (binM (addW false) (varM 2) (conM (.int 1))) nilA))))
 (seqM (forM (itM (varM 5)) (.name 6)
 (expM (methL (arg1 appendW) (unM (fldW "frames") (varM 0)) (consA (tupM (consA (varM 6) (consA (conM (.int 0)) nilA))) nilA))))
 (expM (methM "leave" s_m_leave (varM 0)))))))))))))
noncomputable def s_m_step : Fn := rawM 1 7 b_m_step
theorem A_m_step : Ar 1 s_m_step := ar_raw
abbrev n_p_run : List Str := ["program", "name", "stack", "fuel", "machine"]
noncomputable def b_p_run : MS := (seqM (asgM 4 (mkM s_m_init (consA (varM 0) (consA (varM 1) (consA (varM 2) nilA)))))
 (seqM (whileM (notT (tvM (methM "over" s_m_over (varM 4))))
 (seqM (ifM (tvM (binM (eqW false) (varM 3) (conM (.int 0))))
 (raiseM .dry)
 passS)
 (seqM (expM (methM "step" s_m_step (varM 4)))
 (asgM 3 (binM subW (varM 3) (conM (.int 1)))))) 1000000)
 (retM (unM (fldW "stack") (varM 4)))))
noncomputable def s_p_run : Fn := fnM 4 5 b_p_run
theorem A_p_run : Ar 4 s_p_run := ar_fn
abbrev n_p_highest : List Str := ["program", "name", "known", "trail", "most", "kinds", "row", "inner"]
noncomputable def b_p_highest (Fr : Fn) : MS := (seqM (ifM (tvM (binM (inW false) (varM 1) (varM 2)))
 (retM (binM ixW (varM 2) (varM 1)))
 passS)
 (seqM (asgM 3 (callF s_p_trail_of (consA (varM 0) (consA (varM 1) nilA))))
 (seqM (asgM 4 (appM (app1 maxLW) (consA (lcM false (itM (varM 3)) 5 yesT (appM (app1 lenW) (consA (varM 5) nilA))) nilA)))
 (seqM (forM (zipM2 (varM 3) (binM ixW (binM ixW (varM 0) (varM 1)) (conM (.int 2)))) (.pair 5 6)
 (seqM (ifM (tvM (binM (eqW false) (binM ixW (varM 6) (conM (.int 0))) (conM (.str "call"))))
 (seqM (asgM 7 (callF Fr (consA (varM 0) (consA (binM ixW (varM 6) (conM (.int 1))) (consA (varM 2) nilA)))))
 (asgM 4 (appM (app2 maxW) (consA (varM 4) (consA (binM (addW false) (binM subW (appM (app1 lenW) (consA (varM 5) nilA)) (appM (app1 lenW) (consA (binM ixW (binM ixW (varM 0) (binM ixW (varM 6) (conM (.int 1)))) (conM (.int 0))) nilA))) (varM 7)) nilA)))))
 passS)
 (ifM (tvM (binM (eqW false) (binM ixW (varM 6) (conM (.int 0))) (conM (.str "if"))))
 (seqM (asgM 7 (appM (app2 maxW) (consA (callF Fr (consA (varM 0) (consA (binM ixW (varM 6) (conM (.int 1))) (consA (varM 2) nilA)))) (consA (callF Fr (consA (varM 0) (consA (binM ixW (varM 6) (conM (.int 2))) (consA (varM 2) nilA)))) nilA))))
 (asgM 4 (appM (app2 maxW) (consA (varM 4) (consA (binM (addW false) (binM subW (binM subW (appM (app1 lenW) (consA (varM 5) nilA)) (conM (.int 1))) (appM (app1 lenW) (consA (binM ixW (binM ixW (varM 0) (binM ixW (varM 6) (conM (.int 1)))) (conM (.int 0))) nilA))) (varM 7)) nilA)))))
 passS)))
 (seqM (setDM (varM 2) (varM 1) (varM 4))
 (retM (varM 4)))))))
noncomputable def s_p_highest : Nat → Fn
  | 0 => fun _ _ => .stuck
  | q + 1 => fnM 3 8 (b_p_highest (s_p_highest q))
theorem A_p_highest : ∀ q, Ar 3 (s_p_highest q)
  | 0 => fun ws st h => absurd rfl h
  | q + 1 => ar_fn
abbrev n_p_height : List Str := ["program", "name", "other"]
noncomputable def b_p_height : MS := (seqM (forM (itM (binM (addW false) (lstM false (consA (varM 1) nilA)) (frM (callF s_p_reached (consA (varM 0) (consA (varM 1) nilA)))))) (.name 2)
 (ifM (tvM (binM (inW false) (varM 2) (frM (callF s_p_reached (consA (varM 0) (consA (varM 2) nilA))))))
 (retM (conM .non))
 passS))
 (retM (callF (s_p_highest 64) (consA (varM 0) (consA (varM 1) (consA (dnewM true) nilA))))))
noncomputable def s_p_height : Fn := fnM 2 3 b_p_height
theorem A_p_height : Ar 2 s_p_height := ar_fn
abbrev n_program_2 : List Str := ["_law_script", "_law_tape", "_law_some", "_law_leaves", "_law_begin", "_law_names", "_law_kinds", "_law_first", "_law_second", "_law_program_here", "_law_letter"]
noncomputable def b_program_2 : MS := (seqM (asgM 4 (callF s_words (consA (callF s_draw (consA (varM 0) (consA (varM 1) (consA (conM (.int 1000000)) nilA)))) (consA (binM ixW (lstM false (consA (conM (.int 0)) (consA (conM (.int 1)) (consA (conM (.int 50)) nilA)))) (callF s_draw (consA (varM 0) (consA (varM 1) (consA (conM (.int 3)) nilA))))) nilA))))
 (seqM (asgM 5 (lcM false (itM (lstM false (consA (conM (.str "X")) (consA (conM (.str "Y")) (consA (conM (.str "Z")) nilA))))) 10 yesT (binM (addW false) (binM (addW false) (varM 4) (varM 10)) (varM 4))))
 (seqM (asgM 6 (tupM (consA (conM (.str "num")) nilA)))
 (seqM (asgM 7 (lstM false (consA (tupM (consA (conM (.str "copy")) (consA (conM (.int 0)) nilA))) (consA (tupM (consA (conM (.str "if")) (consA (binM ixW (varM 5) (conM (.int 1))) (consA (binM ixW (varM 5) (conM (.int 2))) nilA)))) nilA))))
 (seqM (asgM 8 (lstM false (consA (tupM (consA (conM (.str "num")) (consA (conM (.int 999999999)) nilA))) (consA (tupM (consA (conM (.str "add")) nilA)) (consA (tupM (consA (conM (.str "call")) (consA (binM ixW (varM 5) (conM (.int 0))) nilA))) (consA (tupM (consA (conM (.str "num")) (consA (varM 2) nilA))) (consA (tupM (consA (conM (.str "add")) nilA)) nilA)))))))
 (seqM (ifM (truM (varM 3))
 (asgM 8 (lstM false (consA (tupM (consA (conM (.str "copy")) (consA (conM (.int 0)) nilA))) (consA (tupM (consA (conM (.str "num")) (consA (conM (.int 999999999)) nilA))) (consA (tupM (consA (conM (.str "add")) nilA)) (consA (tupM (consA (conM (.str "call")) (consA (binM ixW (varM 5) (conM (.int 0))) nilA))) (consA (tupM (consA (conM (.str "add")) nilA)) nilA)))))))
 passS)
 (seqM (asgM 9 (dnewM true))
 (seqM (setDM (varM 9) (binM ixW (varM 5) (conM (.int 2))) (tupM (consA (varM 6) (consA (varM 6) (consA (lstM false nilA) nilA)))))
 (seqM (setDM (varM 9) (binM ixW (varM 5) (conM (.int 0))) (tupM (consA (varM 6) (consA (varM 6) (consA (varM 7) nilA)))))
 (seqM (setDM (varM 9) (binM ixW (varM 5) (conM (.int 1))) (tupM (consA (varM 6) (consA (varM 6) (consA (varM 8) nilA)))))
 (retM (tupM (consA (varM 9) (consA (varM 5) nilA))))))))))))))
noncomputable def s_program_2 : Fn := fnM 4 11 b_program_2
theorem A_program_2 : Ar 4 s_program_2 := ar_fn
abbrev n_run_3 : List Str := ["_law_program_here", "_law_name", "_law_stack", "_law_fuel"]
noncomputable def b_run_3 : MS := (tryM (retM (frM (callF s_p_run (consA (varM 0) (consA (varM 1) (consA (varM 2) (consA (varM 3) nilA))))))) [([.dry], (retM (conM (.str "dry"))))])
noncomputable def s_run_3 : Fn := fnM 4 4 b_run_3
theorem A_run_3 : Ar 4 s_run_3 := ar_fn
abbrev n_deep : List Str := ["_law_program_here", "_law_names", "_law_beneath", "_law_many", "_law_leaves", "_law_some", "_law_machine", "_law_other", "_law_left", "_law_turn", "_law_due"]
noncomputable def b_deep : MS := (seqM (asgM 6 (mkM s_m_init (consA (varM 0) (consA (binM ixW (varM 1) (conM (.int 0))) (consA (binM (addW false) (varM 2) (lstM false (consA (varM 3) nilA))) nilA)))))
 (seqM (asgM 7 (mkM s_m_init (consA (varM 0) (consA (binM ixW (varM 1) (conM (.int 0))) (consA (binM (addW false) (varM 2) (lstM false (consA (conM (.int 1)) nilA))) nilA)))))
 (seqM (asgM 8 (lstM false nilA))
 (seqM (forM (rngM (binM (mulW false) (binM (addW false) (conM (.int 5)) (appM (app1 intW) (consA (varM 4) nilA))) (varM 3))) (.name 9)
 (seqM (expM (methM "step" s_m_step (varM 6)))
 (ifM (tvM (binM (eqW false) (binM modW (varM 9) (conM (.int 3))) (conM (.int 0))))
 (expM (methM "step" s_m_step (varM 7)))
 passS)))
 (seqM (forM (rngM (conM (.int 9))) (.name 9)
 (expM (methM "step" s_m_step (varM 7))))
 (seqM (ifM (orT (notT (tvM (methM "over" s_m_over (varM 7)))) (notT (tvM (callF s_alike (consA (unM (fldW "stack") (varM 7)) (consA (binM (addW false) (varM 2) (lstM false (consA (binM ixW (lstM false (consA (varM 5) (consA (conM (.int 1)) nilA))) (appM (app1 intW) (consA (varM 4) nilA))) nilA))) nilA))))))
 (retM (conM (.bl false)))
 passS)
 (seqM (ifM (truM (varM 4))
 (asgM 8 (lcM false (rngM (varM 3)) 9 yesT (binM subW (varM 3) (varM 9))))
 passS)
 (seqM (asgM 10 (binM (addW false) (binM (mulW false) (lstM false (consA (tupM (consA (binM ixW (varM 1) (conM (.int 0))) (consA (conM (.int 2)) nilA))) (consA (tupM (consA (binM ixW (varM 1) (conM (.int 1))) (consA (binM (addW false) (conM (.int 3)) (appM (app1 intW) (consA (varM 4) nilA))) nilA))) nilA))) (varM 3)) (lstM false (consA (tupM (consA (binM ixW (varM 1) (conM (.int 0))) (consA (conM (.int 0)) nilA))) nilA))))
 (retM (andV (binM (eqW false) (unM (fldW "frames") (varM 6)) (varM 10)) (andV (notV (methM "over" s_m_over (varM 6))) (callF s_alike (consA (unM (fldW "stack") (varM 6)) (consA (binM (addW false) (binM (addW false) (varM 2) (varM 8)) (lstM false (consA (conM (.int 0)) nilA))) nilA))))))))))))))
noncomputable def s_deep : Fn := fnM 6 11 b_deep
theorem A_deep : Ar 6 s_deep := ar_fn
abbrev n_law_k13 : List Str := ["_law_script", "_law_tape", "_law_some", "_law_many", "_law_way", "_law_leaves", "_law_program_here", "_law_names", "_law_beneath", "_law_k", "_law_steps", "_law_fuel", "_law_found", "_law_due"]
noncomputable def b_law_k13 : MS := (seqM (asgM 1 (lstM true (consA (conM (.int 0)) nilA)))
 (seqM (asgM 2 (callF s_value (consA (varM 0) (consA (varM 1) (consA (conM (.str "num")) nilA)))))
 (seqM (asgM 3 (callF s_draw (consA (varM 0) (consA (varM 1) (consA (conM (.int 12)) nilA)))))
 (seqM (ifM (tvM (binM (eqW false) (callF s_draw (consA (varM 0) (consA (varM 1) (consA (conM (.int 6)) nilA)))) (conM (.int 1))))
 (asgM 3 (binM (addW false) (callF s_draw (consA (varM 0) (consA (varM 1) (consA (conM (.int 91)) nilA)))) (binM (mulW false) (conM (.int 300)) (appM (app1 intW) (consA (binM (eqW false) (callF s_draw (consA (varM 0) (consA (varM 1) (consA (conM (.int 4)) nilA)))) (conM (.int 1))) nilA)))))
 passS)
 (seqM (asgM 4 (callF s_draw (consA (varM 0) (consA (varM 1) (consA (conM (.int 3)) nilA)))))
 (seqM (asgM 5 (binM (eqW false) (callF s_draw (consA (varM 0) (consA (varM 1) (consA (conM (.int 2)) nilA)))) (conM (.int 0))))
 (seqM (asgTM [6, 7] (callF s_program_2 (consA (varM 0) (consA (varM 1) (consA (varM 2) (consA (varM 5) nilA))))))
 (seqM (asgM 8 (lstM true nilA))
 (seqM (forM (rngM (binM (addW false) (callF s_draw (consA (varM 0) (consA (varM 1) (consA (conM (.int 4)) nilA)))) (binM ixW (lstM false (consA (conM (.int 0)) (consA (conM (.int 0)) (consA (conM (.int 0)) (consA (conM (.int 0)) (consA (conM (.int 0)) (consA (conM (.int 60)) nilA))))))) (callF s_draw (consA (varM 0) (consA (varM 1) (consA (conM (.int 6)) nilA))))))) (.name 9)
 (expM (methL (arg1 appendW) (varM 8) (consA (callF s_value (consA (varM 0) (consA (varM 1) (consA (binM ixW (lstM false (consA (conM (.str "num")) (consA (conM (.str "text")) nilA))) (callF s_draw (consA (varM 0) (consA (varM 1) (consA (conM (.int 2)) nilA))))) nilA)))) nilA))))
 (seqM (asgM 10 (binM (addW false) (binM (mulW false) (conM (.int 7)) (varM 3)) (conM (.int 2))))
 (seqM (ifM (orT (tvM (binM (isBlW true) (callF s_p_let_by (consA (varM 6) (consA (binM ixW (varM 7) (conM (.int 0))) nilA))) (conM (.bl true)))) (tvM (binM (isNonB true) (callF s_p_height (consA (varM 6) (consA (binM ixW (varM 7) (conM (.int 0))) nilA))) (conM .non))))
 (retM (conM (.bl false)))
 passS)
 (seqM (asgM 11 (varM 10))
 (seqM (ifM (tvM (binM (eqW false) (varM 4) (conM (.int 1))))
 (asgM 11 (callF s_draw (consA (varM 0) (consA (varM 1) (consA (varM 10) nilA)))))
 passS)
 (seqM (ifM (tvM (binM (eqW false) (varM 4) (conM (.int 2))))
 (asgM 11 (binM (addW false) (binM (addW false) (varM 10) (conM (.int 1))) (callF s_draw (consA (varM 0) (consA (varM 1) (consA (conM (.int 1000)) nilA))))))
 passS)
 (seqM (asgM 12 (callF s_run_3 (consA (varM 6) (consA (binM ixW (varM 7) (conM (.int 0))) (consA (binM (addW false) (varM 8) (lstM false (consA (varM 3) nilA))) (consA (varM 11) nilA))))))
 (seqM (ifM (tvM (binM ltW (varM 11) (varM 10)))
 (retM (andV (unM (isi1 "str") (varM 12)) (binM (eqW false) (varM 12) (conM (.str "dry")))))
 passS)
 (seqM (asgM 13 (binM modW (binM (mulW false) (varM 3) (varM 2)) (binM powW (conM (.int 10)) (conM (.int 9)))))
 (seqM (ifM (truM (varM 5))
 (asgM 13 (binM fdivW (binM (mulW false) (varM 3) (binM (addW false) (varM 3) (conM (.int 1)))) (conM (.int 2))))
 passS)
 (retM (andV (callF s_alike (consA (varM 12) (consA (binM (addW false) (varM 8) (lstM false (consA (varM 13) nilA))) nilA))) (callF s_deep (consA (varM 6) (consA (varM 7) (consA (varM 8) (consA (varM 3) (consA (varM 5) (consA (varM 2) nilA)))))))))))))))))))))))))))
noncomputable def s_law_k13 : Fn := fnM 1 14 b_law_k13
end Py

namespace Py
open PySem L2
/-! ### typed data -/
inductive Kd where | num | text deriving DecidableEq
def Kd.s : Kd → String | .num => "num" | .text => "text"
def Kd.enc (k : Kd) : D := .str (Str.ofString k.s)
inductive Val where | i (n : Int) | s (t : Str) deriving DecidableEq
def Val.enc : Val → D | .i n => .int n | .s t => .str t
def Val.kd : Val → Kd | .i _ => .num | .s _ => .text
/-- a value that the rows make -/
def Val.ok : Val → Prop | .i n => 0 ≤ n ∧ n < 1000000000 | .s t => PyData.strOk t = true ∧ t.length ≤ 60
abbrev encV (vs : List Val) : List D := vs.map Val.enc
inductive Op where | add | mul | less | join | long | shw | swap | drop deriving DecidableEq
def Op.s : Op → String | .add => "add" | .mul => "mul" | .less => "less" | .join => "join" | .long => "long" | .shw => "show" | .swap => "swap" | .drop => "drop"
inductive Row where
  | num (v : Int) | text (s : Str) | op (o : Op) | copy (k : Nat)
def Row.word : Row → String | .num _ => "num" | .text _ => "text" | .op o => o.s | .copy _ => "copy"
def Row.enc : Row → D
  | .num v => .tup [.str "num", .int v]
  | .text v => .tup [.str "text", .str v]
  | .op o => .tup [.str (Str.ofString o.s)]
  | .copy k => .tup [.str "copy", .int k]
def Row.ok : Row → Prop
  | .num v => (Val.i v).ok
  | .text s => (Val.s s).ok
  | .copy k => k ≤ 60
  | .op _ => True
theorem small {n : Nat} (h : n ≤ 1000000) : n ≤ sizeLine := Nat.le_trans h (by decide)
/-! ### wants, need -/
def Op.wants : Op → List (Option Kd)
  | .add => [some .num, some .num] | .mul => [some .num, some .num] | .less => [some .num, some .num] | .join => [some .text, some .text]
  | .long => [some .text] | .shw => [some .num] | .swap => [none, none] | .drop => [none]
def Row.wants : Row → List (Option Kd)
  | .num _ => [] | .text _ => [] | .op o => o.wants | .copy k => List.replicate (k + 1) none
def encO : Option Kd → D | none => .non | some k => k.enc
theorem reps_one (k : Nat) (d : D) : reps (((k : Nat) : Int) + 1) [d] = List.replicate (k + 1) d := by
  unfold reps
  have : (((k : Nat) : Int) + 1).toNat = k + 1 := by omega
  rw [this]
  induction k with
  | zero => rfl
  | succ k ih => rw [List.replicate_succ, List.flatten_cons, ih (by omega), List.replicate_succ (n := k + 1)]; rfl
theorem wants_ok (r : Row) (hr : r.ok) (st : Store) : s_p_wants [.d r.enc] st = .ok (.d (.tup (r.wants.map encO))) st := by
  unfold s_p_wants b_p_wants
  cases r with
  | num v => unfold Row.enc; simp only [szs, fnM, rawM, seqM, ifM, tvM, truM, binM, unM, appM, consA, nilA, varM, conM, retM, retN, asgM, expM, raiseM, passS, callF, app1, app2, noExc, isExc_d, isExc_c, bindS_ok, bindS_err, bindS_stuck, Res.bind_ok, Res.bind_err, Res.bind_stuck, onBl_bl, andT, orT, notT, andV, orV, notV, tupM, lstM, toDs, toD, asD_d, asD_new, frzW_d, newT, newL, slM, slW, someO, noneO, ixW, addW, subW, mulW, modW, cmpW, negW, lenW, intW, tabW, isNonB, isNonW, isNon_d, List.map_cons, List.map_nil, List.length_cons, List.length_nil, List.replicate, List.append_nil, List.nil_append, List.cons_append, List.getElem?_cons_zero, List.getElem?_cons_succ, List.set_cons_zero, List.set_cons_succ, Nat.reduceAdd, Nat.reduceSub, if_true, if_false, ite_true, ite_false, Bool.not_true, Bool.not_false, Bool.and_true, Bool.and_false, Bool.false_eq_true, reduceIte, fin_same, finE_same, fin_new, atI_0, atI_1, atI_2, eqW_ofs, look_ofs, look_nil, dspC, newDc, inW, Option.isSome_some, Option.isSome_none, itM, forM, items_dl, items_dt, methL, methD, arg0, arg1, arg2, appendW, popW, listW, get_new, set_new, isLst_new, pow109, String.reduceBEq, String.reduceEq, Bool.false_or, Bool.true_or, Bool.or_false, Bool.or_true]; simp [T_WANTS, look_ofs, fin_same, Row.wants]
  | text v => unfold Row.enc; simp only [szs, fnM, rawM, seqM, ifM, tvM, truM, binM, unM, appM, consA, nilA, varM, conM, retM, retN, asgM, expM, raiseM, passS, callF, app1, app2, noExc, isExc_d, isExc_c, bindS_ok, bindS_err, bindS_stuck, Res.bind_ok, Res.bind_err, Res.bind_stuck, onBl_bl, andT, orT, notT, andV, orV, notV, tupM, lstM, toDs, toD, asD_d, asD_new, frzW_d, newT, newL, slM, slW, someO, noneO, ixW, addW, subW, mulW, modW, cmpW, negW, lenW, intW, tabW, isNonB, isNonW, isNon_d, List.map_cons, List.map_nil, List.length_cons, List.length_nil, List.replicate, List.append_nil, List.nil_append, List.cons_append, List.getElem?_cons_zero, List.getElem?_cons_succ, List.set_cons_zero, List.set_cons_succ, Nat.reduceAdd, Nat.reduceSub, if_true, if_false, ite_true, ite_false, Bool.not_true, Bool.not_false, Bool.and_true, Bool.and_false, Bool.false_eq_true, reduceIte, fin_same, finE_same, fin_new, atI_0, atI_1, atI_2, eqW_ofs, look_ofs, look_nil, dspC, newDc, inW, Option.isSome_some, Option.isSome_none, itM, forM, items_dl, items_dt, methL, methD, arg0, arg1, arg2, appendW, popW, listW, get_new, set_new, isLst_new, pow109, String.reduceBEq, String.reduceEq, Bool.false_or, Bool.true_or, Bool.or_false, Bool.or_true]; simp [T_WANTS, look_ofs, fin_same, Row.wants]
  | op o => unfold Row.enc; cases o <;> (unfold Op.s; simp only [szs, fnM, rawM, seqM, ifM, tvM, truM, binM, unM, appM, consA, nilA, varM, conM, retM, retN, asgM, expM, raiseM, passS, callF, app1, app2, noExc, isExc_d, isExc_c, bindS_ok, bindS_err, bindS_stuck, Res.bind_ok, Res.bind_err, Res.bind_stuck, onBl_bl, andT, orT, notT, andV, orV, notV, tupM, lstM, toDs, toD, asD_d, asD_new, frzW_d, newT, newL, slM, slW, someO, noneO, ixW, addW, subW, mulW, modW, cmpW, negW, lenW, intW, tabW, isNonB, isNonW, isNon_d, List.map_cons, List.map_nil, List.length_cons, List.length_nil, List.replicate, List.append_nil, List.nil_append, List.cons_append, List.getElem?_cons_zero, List.getElem?_cons_succ, List.set_cons_zero, List.set_cons_succ, Nat.reduceAdd, Nat.reduceSub, if_true, if_false, ite_true, ite_false, Bool.not_true, Bool.not_false, Bool.and_true, Bool.and_false, Bool.false_eq_true, reduceIte, fin_same, finE_same, fin_new, atI_0, atI_1, atI_2, eqW_ofs, look_ofs, look_nil, dspC, newDc, inW, Option.isSome_some, Option.isSome_none, itM, forM, items_dl, items_dt, methL, methD, arg0, arg1, arg2, appendW, popW, listW, get_new, set_new, isLst_new, pow109, String.reduceBEq, String.reduceEq, Bool.false_or, Bool.true_or, Bool.or_false, Bool.or_true]; simp [T_WANTS, look_ofs, fin_same, Row.wants, Op.wants, encO, Kd.enc, Kd.s])
  | copy k =>
    have hk : k ≤ 60 := hr
    unfold Row.enc; simp only [szs, fnM, rawM, seqM, ifM, tvM, truM, binM, unM, appM, consA, nilA, varM, conM, retM, retN, asgM, expM, raiseM, passS, callF, app1, app2, noExc, isExc_d, isExc_c, bindS_ok, bindS_err, bindS_stuck, Res.bind_ok, Res.bind_err, Res.bind_stuck, onBl_bl, andT, orT, notT, andV, orV, notV, tupM, lstM, toDs, toD, asD_d, asD_new, frzW_d, newT, newL, slM, slW, someO, noneO, ixW, addW, subW, mulW, modW, cmpW, negW, lenW, intW, tabW, isNonB, isNonW, isNon_d, List.map_cons, List.map_nil, List.length_cons, List.length_nil, List.replicate, List.append_nil, List.nil_append, List.cons_append, List.getElem?_cons_zero, List.getElem?_cons_succ, List.set_cons_zero, List.set_cons_succ, Nat.reduceAdd, Nat.reduceSub, if_true, if_false, ite_true, ite_false, Bool.not_true, Bool.not_false, Bool.and_true, Bool.and_false, Bool.false_eq_true, reduceIte, fin_same, finE_same, fin_new, atI_0, atI_1, atI_2, eqW_ofs, look_ofs, look_nil, dspC, newDc, inW, Option.isSome_some, Option.isSome_none, itM, forM, items_dl, items_dt, methL, methD, arg0, arg1, arg2, appendW, popW, listW, get_new, set_new, isLst_new, pow109, String.reduceBEq, String.reduceEq, Bool.false_or, Bool.true_or, Bool.or_false, Bool.or_true]
    rw [if_pos ⟨tupOk_of (by omega) (by omega), trivial⟩]
    simp only [reps_one]
    rw [if_pos (by rw [List.length_replicate]; exact small (by omega))]
    simp [Row.wants, fin_same, encO]
def bad (p : Kd × Option Kd) : Bool := match p.2 with | none => false | some w => p.1.s != w.s
def need (ks : List Kd) (ws : List (Option Kd)) : Option Exc :=
  if ks.length < ws.length then some .empty
  else if ((ks.drop (ks.length - ws.length)).zip ws).any bad = true then some .kind else none
theorem need_body (k : Kd) (w : Option Kd) (x y : W) (st : Store) : ifM (andT (tvM (binM (isNonB true) (varM 3) (conM .non))) (tvM (binM (eqW true) (varM 2) (varM 3)))) (raiseM .kind) passS [some x, some y, some (.d k.enc), some (.d (encO w))] st
    = if bad (k, w) = true then .err .kind [some x, some y, some (.d k.enc), some (.d (encO w))] st else .nx [some x, some y, some (.d k.enc), some (.d (encO w))] st := by
  cases w with
  | none => simp only [encO, bad]; simp only [szs, fnM, rawM, seqM, ifM, tvM, truM, binM, unM, appM, consA, nilA, varM, conM, retM, retN, asgM, expM, raiseM, passS, callF, app1, app2, noExc, isExc_d, isExc_c, bindS_ok, bindS_err, bindS_stuck, Res.bind_ok, Res.bind_err, Res.bind_stuck, onBl_bl, andT, orT, notT, andV, orV, notV, tupM, lstM, toDs, toD, asD_d, asD_new, frzW_d, newT, newL, slM, slW, someO, noneO, ixW, addW, subW, mulW, modW, cmpW, negW, lenW, intW, tabW, isNonB, isNonW, isNon_d, List.map_cons, List.map_nil, List.length_cons, List.length_nil, List.replicate, List.append_nil, List.nil_append, List.cons_append, List.getElem?_cons_zero, List.getElem?_cons_succ, List.set_cons_zero, List.set_cons_succ, Nat.reduceAdd, Nat.reduceSub, if_true, if_false, ite_true, ite_false, Bool.not_true, Bool.not_false, Bool.and_true, Bool.and_false, Bool.false_eq_true, reduceIte, fin_same, finE_same, fin_new, atI_0, atI_1, atI_2, eqW_ofs, look_ofs, look_nil, dspC, newDc, inW, Option.isSome_some, Option.isSome_none, itM, forM, items_dl, items_dt, methL, methD, arg0, arg1, arg2, appendW, popW, listW, get_new, set_new, isLst_new, pow109, String.reduceBEq, String.reduceEq, Bool.false_or, Bool.true_or, Bool.or_false, Bool.or_true]
  | some w =>
    simp only [encO, bad, Kd.enc, bne]
    simp only [szs, fnM, rawM, seqM, ifM, tvM, truM, binM, unM, appM, consA, nilA, varM, conM, retM, retN, asgM, expM, raiseM, passS, callF, app1, app2, noExc, isExc_d, isExc_c, bindS_ok, bindS_err, bindS_stuck, Res.bind_ok, Res.bind_err, Res.bind_stuck, onBl_bl, andT, orT, notT, andV, orV, notV, tupM, lstM, toDs, toD, asD_d, asD_new, frzW_d, newT, newL, slM, slW, someO, noneO, ixW, addW, subW, mulW, modW, cmpW, negW, lenW, intW, tabW, isNonB, isNonW, isNon_d, List.map_cons, List.map_nil, List.length_cons, List.length_nil, List.replicate, List.append_nil, List.nil_append, List.cons_append, List.getElem?_cons_zero, List.getElem?_cons_succ, List.set_cons_zero, List.set_cons_succ, Nat.reduceAdd, Nat.reduceSub, if_true, if_false, ite_true, ite_false, Bool.not_true, Bool.not_false, Bool.and_true, Bool.and_false, Bool.false_eq_true, reduceIte, fin_same, finE_same, fin_new, atI_0, atI_1, atI_2, eqW_ofs, look_ofs, look_nil, dspC, newDc, inW, Option.isSome_some, Option.isSome_none, itM, forM, items_dl, items_dt, methL, methD, arg0, arg1, arg2, appendW, popW, listW, get_new, set_new, isLst_new, pow109, String.reduceBEq, String.reduceEq, Bool.false_or, Bool.true_or, Bool.or_false, Bool.or_true]
    cases k <;> cases w <;> simp [Kd.s]
theorem need_loop : ∀ (ps : List (Kd × Option Kd)) (a b : Option W) (x y : W) (st : Store),
    ∃ env', loopS (.pair 2 3) (ifM (andT (tvM (binM (isNonB true) (varM 3) (conM .non))) (tvM (binM (eqW true) (varM 2) (varM 3)))) (raiseM .kind) passS) (ps.map fun p => .tup [p.1.enc, encO p.2]) [some x, some y, a, b] st
      = if ps.any bad = true then .err .kind env' st else .nx env' st
  | [], a, b, x, y, st => ⟨_, rfl⟩
  | (k, w) :: ps, a, b, x, y, st => by
    have hb := need_body k w x y st
    rw [List.map_cons, List.any_cons]
    cases q : bad (k, w) with
    | true =>
      rw [if_pos q] at hb
      exact ⟨_, loopS_err rfl hb⟩
    | false =>
      rw [if_neg (by rw [q]; simp)] at hb
      obtain ⟨env', h⟩ := need_loop ps (some (.d k.enc)) (some (.d (encO w))) x y st
      exact ⟨env', (loopS_nx rfl hb).trans h⟩
theorem need_ok (ks : List Kd) (ws : List (Option Kd)) (st : Store) (h1 : ks.length ≤ 500000) : s_p_need [.d (.tup (ks.map Kd.enc)), .d (.tup (ws.map encO))] st = match need ks ws with | some e => .err e st | none => .ok (.d .non) st := by
  unfold s_p_need b_p_need need
  simp only [szs, fnM, rawM, seqM, ifM, tvM, truM, binM, unM, appM, consA, nilA, varM, conM, retM, retN, asgM, expM, raiseM, passS, callF, app1, app2, noExc, isExc_d, isExc_c, bindS_ok, bindS_err, bindS_stuck, Res.bind_ok, Res.bind_err, Res.bind_stuck, onBl_bl, andT, orT, notT, andV, orV, notV, tupM, lstM, toDs, toD, asD_d, asD_new, frzW_d, newT, newL, slM, slW, someO, noneO, ixW, addW, subW, mulW, modW, cmpW, negW, lenW, intW, tabW, isNonB, isNonW, isNon_d, List.map_cons, List.map_nil, List.length_cons, List.length_nil, List.replicate, List.append_nil, List.nil_append, List.cons_append, List.getElem?_cons_zero, List.getElem?_cons_succ, List.set_cons_zero, List.set_cons_succ, Nat.reduceAdd, Nat.reduceSub, if_true, if_false, ite_true, ite_false, Bool.not_true, Bool.not_false, Bool.and_true, Bool.and_false, Bool.false_eq_true, reduceIte, fin_same, finE_same, fin_new, atI_0, atI_1, atI_2, eqW_ofs, look_ofs, look_nil, dspC, newDc, inW, Option.isSome_some, Option.isSome_none, itM, forM, items_dl, items_dt, methL, methD, arg0, arg1, arg2, appendW, popW, listW, get_new, set_new, isLst_new, pow109, String.reduceBEq, String.reduceEq, Bool.false_or, Bool.true_or, Bool.or_false, Bool.or_true]
  simp only [List.length_map, ltW, cmpW, asD]
  by_cases hl : ks.length < ws.length
  · rw [if_pos hl]
    simp only [Int.ofNat_lt, hl, decide_true]
    simp only [szs, fnM, rawM, seqM, ifM, tvM, truM, binM, unM, appM, consA, nilA, varM, conM, retM, retN, asgM, expM, raiseM, passS, callF, app1, app2, noExc, isExc_d, isExc_c, bindS_ok, bindS_err, bindS_stuck, Res.bind_ok, Res.bind_err, Res.bind_stuck, onBl_bl, andT, orT, notT, andV, orV, notV, tupM, lstM, toDs, toD, asD_d, asD_new, frzW_d, newT, newL, slM, slW, someO, noneO, ixW, addW, subW, mulW, modW, cmpW, negW, lenW, intW, tabW, isNonB, isNonW, isNon_d, List.map_cons, List.map_nil, List.length_cons, List.length_nil, List.replicate, List.append_nil, List.nil_append, List.cons_append, List.getElem?_cons_zero, List.getElem?_cons_succ, List.set_cons_zero, List.set_cons_succ, Nat.reduceAdd, Nat.reduceSub, if_true, if_false, ite_true, ite_false, Bool.not_true, Bool.not_false, Bool.and_true, Bool.and_false, Bool.false_eq_true, reduceIte, fin_same, finE_same, fin_new, atI_0, atI_1, atI_2, eqW_ofs, look_ofs, look_nil, dspC, newDc, inW, Option.isSome_some, Option.isSome_none, itM, forM, items_dl, items_dt, methL, methD, arg0, arg1, arg2, appendW, popW, listW, get_new, set_new, isLst_new, pow109, String.reduceBEq, String.reduceEq, Bool.false_or, Bool.true_or, Bool.or_false, Bool.or_true]
  · rw [if_neg hl]
    simp only [Int.ofNat_lt, hl, decide_false]
    simp only [szs, fnM, rawM, seqM, ifM, tvM, truM, binM, unM, appM, consA, nilA, varM, conM, retM, retN, asgM, expM, raiseM, passS, callF, app1, app2, noExc, isExc_d, isExc_c, bindS_ok, bindS_err, bindS_stuck, Res.bind_ok, Res.bind_err, Res.bind_stuck, onBl_bl, andT, orT, notT, andV, orV, notV, tupM, lstM, toDs, toD, asD_d, asD_new, frzW_d, newT, newL, slM, slW, someO, noneO, ixW, addW, subW, mulW, modW, cmpW, negW, lenW, intW, tabW, isNonB, isNonW, isNon_d, List.map_cons, List.map_nil, List.length_cons, List.length_nil, List.replicate, List.append_nil, List.nil_append, List.cons_append, List.getElem?_cons_zero, List.getElem?_cons_succ, List.set_cons_zero, List.set_cons_succ, Nat.reduceAdd, Nat.reduceSub, if_true, if_false, ite_true, ite_false, Bool.not_true, Bool.not_false, Bool.and_true, Bool.and_false, Bool.false_eq_true, reduceIte, fin_same, finE_same, fin_new, atI_0, atI_1, atI_2, eqW_ofs, look_ofs, look_nil, dspC, newDc, inW, Option.isSome_some, Option.isSome_none, itM, forM, items_dl, items_dt, methL, methD, arg0, arg1, arg2, appendW, popW, listW, get_new, set_new, isLst_new, pow109, String.reduceBEq, String.reduceEq, Bool.false_or, Bool.true_or, Bool.or_false, Bool.or_true]
    have e1 : ((ks.length : Int) - (ws.length : Int)) = ((ks.length - ws.length : Nat) : Int) := by omega
    have hsz : (List.drop (ks.length - ws.length) (ks.map Kd.enc)).length ≤ sizeLine := by rw [List.length_drop, List.length_map]; exact small (by omega)
    simp only [szs, fnM, rawM, seqM, ifM, tvM, truM, binM, unM, appM, consA, nilA, varM, conM, retM, retN, asgM, expM, raiseM, passS, callF, app1, app2, noExc, isExc_d, isExc_c, bindS_ok, bindS_err, bindS_stuck, Res.bind_ok, Res.bind_err, Res.bind_stuck, onBl_bl, andT, orT, notT, andV, orV, notV, tupM, lstM, toDs, toD, asD_d, asD_new, frzW_d, newT, newL, slM, slW, someO, noneO, ixW, addW, subW, mulW, modW, cmpW, negW, lenW, intW, tabW, isNonB, isNonW, isNon_d, List.map_cons, List.map_nil, List.length_cons, List.length_nil, List.replicate, List.append_nil, List.nil_append, List.cons_append, List.getElem?_cons_zero, List.getElem?_cons_succ, List.set_cons_zero, List.set_cons_succ, Nat.reduceAdd, Nat.reduceSub, if_true, if_false, ite_true, ite_false, Bool.not_true, Bool.not_false, Bool.and_true, Bool.and_false, Bool.false_eq_true, reduceIte, fin_same, finE_same, fin_new, atI_0, atI_1, atI_2, eqW_ofs, look_ofs, look_nil, dspC, newDc, inW, Option.isSome_some, Option.isSome_none, itM, forM, items_dl, items_dt, methL, methD, arg0, arg1, arg2, appendW, popW, listW, get_new, set_new, isLst_new, pow109, String.reduceBEq, String.reduceEq, Bool.false_or, Bool.true_or, Bool.or_false, Bool.or_true, forM, zipM2]
    simp only [List.length_map, e1, cut_from]
    rw [if_pos hsz]
    simp only [szs, fnM, rawM, seqM, ifM, tvM, truM, binM, unM, appM, consA, nilA, varM, conM, retM, retN, asgM, expM, raiseM, passS, callF, app1, app2, noExc, isExc_d, isExc_c, bindS_ok, bindS_err, bindS_stuck, Res.bind_ok, Res.bind_err, Res.bind_stuck, onBl_bl, andT, orT, notT, andV, orV, notV, tupM, lstM, toDs, toD, asD_d, asD_new, frzW_d, newT, newL, slM, slW, someO, noneO, ixW, addW, subW, mulW, modW, cmpW, negW, lenW, intW, tabW, isNonB, isNonW, isNon_d, List.map_cons, List.map_nil, List.length_cons, List.length_nil, List.replicate, List.append_nil, List.nil_append, List.cons_append, List.getElem?_cons_zero, List.getElem?_cons_succ, List.set_cons_zero, List.set_cons_succ, Nat.reduceAdd, Nat.reduceSub, if_true, if_false, ite_true, ite_false, Bool.not_true, Bool.not_false, Bool.and_true, Bool.and_false, Bool.false_eq_true, reduceIte, fin_same, finE_same, fin_new, atI_0, atI_1, atI_2, eqW_ofs, look_ofs, look_nil, dspC, newDc, inW, Option.isSome_some, Option.isSome_none, itM, forM, items_dl, items_dt, methL, methD, arg0, arg1, arg2, appendW, popW, listW, get_new, set_new, isLst_new, pow109, String.reduceBEq, String.reduceEq, Bool.false_or, Bool.true_or, Bool.or_false, Bool.or_true]
    rw [← List.map_drop, List.zip_map, List.map_map]
    obtain ⟨env', h⟩ := need_loop ((ks.drop (ks.length - ws.length)).zip ws) none none (.d (.tup (ks.map Kd.enc))) (.d (.tup (ws.map encO))) st
    rw [show ((fun p : D × D => D.tup [p.1, p.2]) ∘ Prod.map Kd.enc encO) = (fun p : Kd × Option Kd => D.tup [p.1.enc, encO p.2]) from rfl]
    rw [h]
    by_cases q : ((ks.drop (ks.length - ws.length)).zip ws).any bad = true
    · simp only [if_pos q, finE_same]
    · simp only [if_neg q, fin_same]
/-! ### kinds_of -/
theorem kind_of_ok (v : Val) (st : Store) : s_p_kind_of [.d v.enc] st = .ok (.d v.kd.enc) st := by
  unfold s_p_kind_of b_p_kind_of
  cases v <;> (simp only [Val.enc, Val.kd, Kd.enc, Kd.s]; simp only [szs, fnM, rawM, seqM, ifM, tvM, truM, binM, unM, appM, consA, nilA, varM, conM, retM, retN, asgM, expM, raiseM, passS, callF, app1, app2, noExc, isExc_d, isExc_c, bindS_ok, bindS_err, bindS_stuck, Res.bind_ok, Res.bind_err, Res.bind_stuck, onBl_bl, andT, orT, notT, andV, orV, notV, tupM, lstM, toDs, toD, asD_d, asD_new, frzW_d, newT, newL, slM, slW, someO, noneO, ixW, addW, subW, mulW, modW, cmpW, negW, lenW, intW, tabW, isNonB, isNonW, isNon_d, List.map_cons, List.map_nil, List.length_cons, List.length_nil, List.replicate, List.append_nil, List.nil_append, List.cons_append, List.getElem?_cons_zero, List.getElem?_cons_succ, List.set_cons_zero, List.set_cons_succ, Nat.reduceAdd, Nat.reduceSub, if_true, if_false, ite_true, ite_false, Bool.not_true, Bool.not_false, Bool.and_true, Bool.and_false, Bool.false_eq_true, reduceIte, fin_same, finE_same, fin_new, atI_0, atI_1, atI_2, eqW_ofs, look_ofs, look_nil, dspC, newDc, inW, Option.isSome_some, Option.isSome_none, itM, forM, items_dl, items_dt, methL, methD, arg0, arg1, arg2, appendW, popW, listW, get_new, set_new, isLst_new, pow109, String.reduceBEq, String.reduceEq, Bool.false_or, Bool.true_or, Bool.or_false, Bool.or_true]; simp only [isi1, tyOf]; simp [isiOne, fin_same])
theorem kinds_of_ok (vs : List Val) (w : W) (st : Store) (hw : asD st w = some (.lst (encV vs))) (hd : ∃ d, w = .d d) (hl : vs.length ≤ 400000) : s_p_kinds_of [w] st = .ok (.d (.tup (vs.map fun v => v.kd.enc))) st := by
  obtain ⟨d, rfl⟩ := hd
  simp only [asD, Option.some.injEq] at hw
  subst hw
  unfold s_p_kinds_of b_p_kinds_of
  simp only [szs, fnM, rawM, seqM, ifM, tvM, truM, binM, unM, appM, consA, nilA, varM, conM, retM, retN, asgM, expM, raiseM, passS, callF, app1, app2, noExc, isExc_d, isExc_c, bindS_ok, bindS_err, bindS_stuck, Res.bind_ok, Res.bind_err, Res.bind_stuck, onBl_bl, andT, orT, notT, andV, orV, notV, tupM, lstM, toDs, toD, asD_d, asD_new, frzW_d, newT, newL, slM, slW, someO, noneO, ixW, addW, subW, mulW, modW, cmpW, negW, lenW, intW, tabW, isNonB, isNonW, isNon_d, List.map_cons, List.map_nil, List.length_cons, List.length_nil, List.replicate, List.append_nil, List.nil_append, List.cons_append, List.getElem?_cons_zero, List.getElem?_cons_succ, List.set_cons_zero, List.set_cons_succ, Nat.reduceAdd, Nat.reduceSub, if_true, if_false, ite_true, ite_false, Bool.not_true, Bool.not_false, Bool.and_true, Bool.and_false, Bool.false_eq_true, reduceIte, fin_same, finE_same, fin_new, atI_0, atI_1, atI_2, eqW_ofs, look_ofs, look_nil, dspC, newDc, inW, Option.isSome_some, Option.isSome_none, itM, forM, items_dl, items_dt, methL, methD, arg0, arg1, arg2, appendW, popW, listW, get_new, set_new, isLst_new, pow109, String.reduceBEq, String.reduceEq, Bool.false_or, Bool.true_or, Bool.or_false, Bool.or_true, lcM, itM, itemsW]
  rw [lcLoop_map (fun x => match x with | .str _ => .str "text" | _ => .str "num") _ (fun x hx => ?_) (by rw [List.length_map]; exact small (by omega))]
  · have hsz : (List.map (fun x => match x with | D.str _ => D.str "text" | _ => D.str "num") (encV vs)).length ≤ sizeLine := by rw [List.length_map, List.length_map]; exact small (by omega)
    simp only [szs, fnM, rawM, seqM, ifM, tvM, truM, binM, unM, appM, consA, nilA, varM, conM, retM, retN, asgM, expM, raiseM, passS, callF, app1, app2, noExc, isExc_d, isExc_c, bindS_ok, bindS_err, bindS_stuck, Res.bind_ok, Res.bind_err, Res.bind_stuck, onBl_bl, andT, orT, notT, andV, orV, notV, tupM, lstM, toDs, toD, asD_d, asD_new, frzW_d, newT, newL, slM, slW, someO, noneO, ixW, addW, subW, mulW, modW, cmpW, negW, lenW, intW, tabW, isNonB, isNonW, isNon_d, List.map_cons, List.map_nil, List.length_cons, List.length_nil, List.replicate, List.append_nil, List.nil_append, List.cons_append, List.getElem?_cons_zero, List.getElem?_cons_succ, List.set_cons_zero, List.set_cons_succ, Nat.reduceAdd, Nat.reduceSub, if_true, if_false, ite_true, ite_false, Bool.not_true, Bool.not_false, Bool.and_true, Bool.and_false, Bool.false_eq_true, reduceIte, fin_same, finE_same, fin_new, atI_0, atI_1, atI_2, eqW_ofs, look_ofs, look_nil, dspC, newDc, inW, Option.isSome_some, Option.isSome_none, itM, forM, items_dl, items_dt, methL, methD, arg0, arg1, arg2, appendW, popW, listW, get_new, set_new, isLst_new, pow109, String.reduceBEq, String.reduceEq, Bool.false_or, Bool.true_or, Bool.or_false, Bool.or_true]
    rw [if_pos hsz]
    simp only [Res.bind_ok, tupleW, asD]
    simp only [szs, fnM, rawM, seqM, ifM, tvM, truM, binM, unM, appM, consA, nilA, varM, conM, retM, retN, asgM, expM, raiseM, passS, callF, app1, app2, noExc, isExc_d, isExc_c, bindS_ok, bindS_err, bindS_stuck, Res.bind_ok, Res.bind_err, Res.bind_stuck, onBl_bl, andT, orT, notT, andV, orV, notV, tupM, lstM, toDs, toD, asD_d, asD_new, frzW_d, newT, newL, slM, slW, someO, noneO, ixW, addW, subW, mulW, modW, cmpW, negW, lenW, intW, tabW, isNonB, isNonW, isNon_d, List.map_cons, List.map_nil, List.length_cons, List.length_nil, List.replicate, List.append_nil, List.nil_append, List.cons_append, List.getElem?_cons_zero, List.getElem?_cons_succ, List.set_cons_zero, List.set_cons_succ, Nat.reduceAdd, Nat.reduceSub, if_true, if_false, ite_true, ite_false, Bool.not_true, Bool.not_false, Bool.and_true, Bool.and_false, Bool.false_eq_true, reduceIte, fin_same, finE_same, fin_new, atI_0, atI_1, atI_2, eqW_ofs, look_ofs, look_nil, dspC, newDc, inW, Option.isSome_some, Option.isSome_none, itM, forM, items_dl, items_dt, methL, methD, arg0, arg1, arg2, appendW, popW, listW, get_new, set_new, isLst_new, pow109, String.reduceBEq, String.reduceEq, Bool.false_or, Bool.true_or, Bool.or_false, Bool.or_true]
    rw [if_pos hsz]
    simp only [Res.bind_ok, bindS_ok, fin_same]
    rw [List.map_map]
    congr 3
    refine List.map_congr_left fun v _ => ?_
    cases v <;> rfl
  · obtain ⟨v, _, rfl⟩ := List.mem_map.mp hx
    simp only [szs, fnM, rawM, seqM, ifM, tvM, truM, binM, unM, appM, consA, nilA, varM, conM, retM, retN, asgM, expM, raiseM, passS, callF, app1, app2, noExc, isExc_d, isExc_c, bindS_ok, bindS_err, bindS_stuck, Res.bind_ok, Res.bind_err, Res.bind_stuck, onBl_bl, andT, orT, notT, andV, orV, notV, tupM, lstM, toDs, toD, asD_d, asD_new, frzW_d, newT, newL, slM, slW, someO, noneO, ixW, addW, subW, mulW, modW, cmpW, negW, lenW, intW, tabW, isNonB, isNonW, isNon_d, List.map_cons, List.map_nil, List.length_cons, List.length_nil, List.replicate, List.append_nil, List.nil_append, List.cons_append, List.getElem?_cons_zero, List.getElem?_cons_succ, List.set_cons_zero, List.set_cons_succ, Nat.reduceAdd, Nat.reduceSub, if_true, if_false, ite_true, ite_false, Bool.not_true, Bool.not_false, Bool.and_true, Bool.and_false, Bool.false_eq_true, reduceIte, fin_same, finE_same, fin_new, atI_0, atI_1, atI_2, eqW_ofs, look_ofs, look_nil, dspC, newDc, inW, Option.isSome_some, Option.isSome_none, itM, forM, items_dl, items_dt, methL, methD, arg0, arg1, arg2, appendW, popW, listW, get_new, set_new, isLst_new, pow109, String.reduceBEq, String.reduceEq, Bool.false_or, Bool.true_or, Bool.or_false, Bool.or_true]
    have e := kind_of_ok v st
    cases v with
    | i n => simp only [Val.enc, W.isExc, Bool.not_false, Bool.and_true, noExc, if_true] at e ⊢; rw [e]; rfl
    | s t => simp only [Val.enc, W.isExc, Bool.not_false, Bool.and_true, noExc, if_true] at e ⊢; rw [e]; rfl
/-! ### done -/
def reck : Op → Val → Val → Val
  | .add, .i a, .i b => .i ((a + b) % 1000000000)
  | .mul, .i a, .i b => .i (a * b % 1000000000)
  | .less, .i a, .i b => .i (if a < b then 1 else 0)
  | .join, .s a, .s b => .s (cutS (a ++ b) none (some 60))
  | _, a, _ => a
def doneV (r : Row) (vs : List Val) : List Val := match r, vs.reverse with
  | .num v, _ => vs ++ [.i v]
  | .text t, _ => vs ++ [.s t]
  | .copy k, l => vs ++ [l.getD k (.i 0)]
  | .op .drop, _ :: us => us.reverse
  | .op .long, .s t :: us => us.reverse ++ [.i t.length]
  | .op .shw, .i n :: us => us.reverse ++ [.s (toString n)]
  | .op .swap, b :: a :: us => us.reverse ++ [b, a]
  | .op o, b :: a :: us => us.reverse ++ [reck o a b]
  | _, _ => vs
theorem reckoned_ok (o : Op) (a b : Val) (ha : a.ok) (hb : b.ok) (h : (o = .join ∧ a.kd = .text ∧ b.kd = .text) ∨ ((o = .add ∨ o = .mul ∨ o = .less) ∧ a.kd = .num ∧ b.kd = .num)) (st : Store) :
    s_p_reckoned [.d (Row.enc (.op o)), .d a.enc, .d b.enc] st = .ok (.d (reck o a b).enc) st := by
  unfold s_p_reckoned b_p_reckoned Row.enc
  rcases h with ⟨rfl, h1, h2⟩ | ⟨h0, h1, h2⟩
  · cases a with
    | i _ => cases h1
    | s x =>
      cases b with
      | i _ => cases h2
      | s y =>
        obtain ⟨_, hx⟩ := ha
        obtain ⟨_, hy⟩ := hb
        have e1 : x.length + y.length ≤ sizeLine := small (by omega)
        have e2 : (x ++ y).length ≤ sizeLine := by rw [Str.length_append]; exact e1
        simp only [Val.enc, Op.s, reck]
        simp only [szs, fnM, rawM, seqM, ifM, tvM, truM, binM, unM, appM, consA, nilA, varM, conM, retM, retN, asgM, expM, raiseM, passS, callF, app1, app2, noExc, isExc_d, isExc_c, bindS_ok, bindS_err, bindS_stuck, Res.bind_ok, Res.bind_err, Res.bind_stuck, onBl_bl, andT, orT, notT, andV, orV, notV, tupM, lstM, toDs, toD, asD_d, asD_new, frzW_d, newT, newL, slM, slW, someO, noneO, ixW, addW, subW, mulW, modW, cmpW, negW, lenW, intW, tabW, isNonB, isNonW, isNon_d, List.map_cons, List.map_nil, List.length_cons, List.length_nil, List.replicate, List.append_nil, List.nil_append, List.cons_append, List.getElem?_cons_zero, List.getElem?_cons_succ, List.set_cons_zero, List.set_cons_succ, Nat.reduceAdd, Nat.reduceSub, if_true, if_false, ite_true, ite_false, Bool.not_true, Bool.not_false, Bool.and_true, Bool.and_false, Bool.false_eq_true, reduceIte, fin_same, finE_same, fin_new, atI_0, atI_1, atI_2, eqW_ofs, look_ofs, look_nil, dspC, newDc, inW, Option.isSome_some, Option.isSome_none, itM, forM, items_dl, items_dt, methL, methD, arg0, arg1, arg2, appendW, popW, listW, get_new, set_new, isLst_new, pow109, String.reduceBEq, String.reduceEq, Bool.false_or, Bool.true_or, Bool.or_false, Bool.or_true]
        rw [if_pos e1]
        simp only [Res.bind_ok, asD]
        rw [if_pos e2]
        simp only [bindS_ok, fin_same]
  · cases a with
    | s _ => cases h1
    | i x =>
      cases b with
      | s _ => cases h2
      | i y =>
        obtain ⟨hx1, hx2⟩ := ha
        rcases h0 with rfl | rfl | rfl
        · simp only [Val.enc, Op.s, reck]
          simp only [szs, fnM, rawM, seqM, ifM, tvM, truM, binM, unM, appM, consA, nilA, varM, conM, retM, retN, asgM, expM, raiseM, passS, callF, app1, app2, noExc, isExc_d, isExc_c, bindS_ok, bindS_err, bindS_stuck, Res.bind_ok, Res.bind_err, Res.bind_stuck, onBl_bl, andT, orT, notT, andV, orV, notV, tupM, lstM, toDs, toD, asD_d, asD_new, frzW_d, newT, newL, slM, slW, someO, noneO, ixW, addW, subW, mulW, modW, cmpW, negW, lenW, intW, tabW, isNonB, isNonW, isNon_d, List.map_cons, List.map_nil, List.length_cons, List.length_nil, List.replicate, List.append_nil, List.nil_append, List.cons_append, List.getElem?_cons_zero, List.getElem?_cons_succ, List.set_cons_zero, List.set_cons_succ, Nat.reduceAdd, Nat.reduceSub, if_true, if_false, ite_true, ite_false, Bool.not_true, Bool.not_false, Bool.and_true, Bool.and_false, Bool.false_eq_true, reduceIte, fin_same, finE_same, fin_new, atI_0, atI_1, atI_2, eqW_ofs, look_ofs, look_nil, dspC, newDc, inW, Option.isSome_some, Option.isSome_none, itM, forM, items_dl, items_dt, methL, methD, arg0, arg1, arg2, appendW, popW, listW, get_new, set_new, isLst_new, pow109, String.reduceBEq, String.reduceEq, Bool.false_or, Bool.true_or, Bool.or_false, Bool.or_true]
          simp [fin_same]
        · simp only [Val.enc, Op.s, reck]
          simp only [szs, fnM, rawM, seqM, ifM, tvM, truM, binM, unM, appM, consA, nilA, varM, conM, retM, retN, asgM, expM, raiseM, passS, callF, app1, app2, noExc, isExc_d, isExc_c, bindS_ok, bindS_err, bindS_stuck, Res.bind_ok, Res.bind_err, Res.bind_stuck, onBl_bl, andT, orT, notT, andV, orV, notV, tupM, lstM, toDs, toD, asD_d, asD_new, frzW_d, newT, newL, slM, slW, someO, noneO, ixW, addW, subW, mulW, modW, cmpW, negW, lenW, intW, tabW, isNonB, isNonW, isNon_d, List.map_cons, List.map_nil, List.length_cons, List.length_nil, List.replicate, List.append_nil, List.nil_append, List.cons_append, List.getElem?_cons_zero, List.getElem?_cons_succ, List.set_cons_zero, List.set_cons_succ, Nat.reduceAdd, Nat.reduceSub, if_true, if_false, ite_true, ite_false, Bool.not_true, Bool.not_false, Bool.and_true, Bool.and_false, Bool.false_eq_true, reduceIte, fin_same, finE_same, fin_new, atI_0, atI_1, atI_2, eqW_ofs, look_ofs, look_nil, dspC, newDc, inW, Option.isSome_some, Option.isSome_none, itM, forM, items_dl, items_dt, methL, methD, arg0, arg1, arg2, appendW, popW, listW, get_new, set_new, isLst_new, pow109, String.reduceBEq, String.reduceEq, Bool.false_or, Bool.true_or, Bool.or_false, Bool.or_true]
          rw [if_pos (mulOk_l hx1 (by omega))]
          simp only [szs, fnM, rawM, seqM, ifM, tvM, truM, binM, unM, appM, consA, nilA, varM, conM, retM, retN, asgM, expM, raiseM, passS, callF, app1, app2, noExc, isExc_d, isExc_c, bindS_ok, bindS_err, bindS_stuck, Res.bind_ok, Res.bind_err, Res.bind_stuck, onBl_bl, andT, orT, notT, andV, orV, notV, tupM, lstM, toDs, toD, asD_d, asD_new, frzW_d, newT, newL, slM, slW, someO, noneO, ixW, addW, subW, mulW, modW, cmpW, negW, lenW, intW, tabW, isNonB, isNonW, isNon_d, List.map_cons, List.map_nil, List.length_cons, List.length_nil, List.replicate, List.append_nil, List.nil_append, List.cons_append, List.getElem?_cons_zero, List.getElem?_cons_succ, List.set_cons_zero, List.set_cons_succ, Nat.reduceAdd, Nat.reduceSub, if_true, if_false, ite_true, ite_false, Bool.not_true, Bool.not_false, Bool.and_true, Bool.and_false, Bool.false_eq_true, reduceIte, fin_same, finE_same, fin_new, atI_0, atI_1, atI_2, eqW_ofs, look_ofs, look_nil, dspC, newDc, inW, Option.isSome_some, Option.isSome_none, itM, forM, items_dl, items_dt, methL, methD, arg0, arg1, arg2, appendW, popW, listW, get_new, set_new, isLst_new, pow109, String.reduceBEq, String.reduceEq, Bool.false_or, Bool.true_or, Bool.or_false, Bool.or_true]
          simp [fin_same]
        · simp only [Val.enc, Op.s, reck]
          simp only [ltW]
          simp only [szs, fnM, rawM, seqM, ifM, tvM, truM, binM, unM, appM, consA, nilA, varM, conM, retM, retN, asgM, expM, raiseM, passS, callF, app1, app2, noExc, isExc_d, isExc_c, bindS_ok, bindS_err, bindS_stuck, Res.bind_ok, Res.bind_err, Res.bind_stuck, onBl_bl, andT, orT, notT, andV, orV, notV, tupM, lstM, toDs, toD, asD_d, asD_new, frzW_d, newT, newL, slM, slW, someO, noneO, ixW, addW, subW, mulW, modW, cmpW, negW, lenW, intW, tabW, isNonB, isNonW, isNon_d, List.map_cons, List.map_nil, List.length_cons, List.length_nil, List.replicate, List.append_nil, List.nil_append, List.cons_append, List.getElem?_cons_zero, List.getElem?_cons_succ, List.set_cons_zero, List.set_cons_succ, Nat.reduceAdd, Nat.reduceSub, if_true, if_false, ite_true, ite_false, Bool.not_true, Bool.not_false, Bool.and_true, Bool.and_false, Bool.false_eq_true, reduceIte, fin_same, finE_same, fin_new, atI_0, atI_1, atI_2, eqW_ofs, look_ofs, look_nil, dspC, newDc, inW, Option.isSome_some, Option.isSome_none, itM, forM, items_dl, items_dt, methL, methD, arg0, arg1, arg2, appendW, popW, listW, get_new, set_new, isLst_new, pow109, String.reduceBEq, String.reduceEq, Bool.false_or, Bool.true_or, Bool.or_false, Bool.or_true]
          simp [fin_same]
theorem need_tail (vs : List Val) (ws : List (Option Kd)) : need ((vs.drop (vs.length - ws.length)).map Val.kd) ws = need (vs.map Val.kd) ws := by
  unfold need
  simp only [List.length_map, List.length_drop, List.map_drop, List.drop_drop]
  by_cases h : vs.length < ws.length
  · rw [if_pos h, if_pos (by omega)]
  · rw [if_neg h, if_neg (by omega)]
    have e : vs.length - ws.length + (vs.length - (vs.length - ws.length) - ws.length) = vs.length - ws.length := by omega
    rw [e]
theorem max0 (a b : Nat) : (if ((a : Int) - (b : Int)) > 0 then (a : Int) - (b : Int) else 0) = ((a - b : Nat) : Int) := by split <;> omega
theorem need_none {ks : List Kd} {ws : List (Option Kd)} (h : need ks ws = none) : ws.length ≤ ks.length ∧ ((ks.drop (ks.length - ws.length)).zip ws).any bad = false := by
  unfold need at h
  split at h
  · cases h
  · split at h
    · cases h
    · rename_i h1 h2
      exact ⟨by omega, by simpa using h2⟩
theorem bad_some {k w : Kd} (h : bad (k, some w) = false) : k = w := by
  cases k <;> cases w <;> first | rfl | (exfalso; revert h; decide)
/-- the two on top -/
theorem top2 {vs : List Val} {w1 w2 : Option Kd} (h : need (vs.map Val.kd) [w1, w2] = none) : ∃ us a b, vs = us ++ [a, b] ∧ bad (a.kd, w1) = false ∧ bad (b.kd, w2) = false := by
  obtain ⟨h1, h2⟩ := need_none h
  simp only [List.length_map, List.length_cons, List.length_nil] at h1 h2
  obtain ⟨us, ys, rfl, hy⟩ : ∃ us ys, vs = us ++ ys ∧ ys.length = 2 := ⟨vs.take (vs.length - 2), vs.drop (vs.length - 2), (List.take_append_drop _ _).symm, by rw [List.length_drop]; omega⟩
  match ys, hy with
  | [a, b], _ =>
    refine ⟨us, a, b, rfl, ?_⟩
    rw [show (us ++ [a, b]).length - (0 + 1 + 1) = us.length from by simp] at h2
    rw [List.map_append, ← List.length_map (f := Val.kd) (as := us), List.drop_left] at h2
    simp only [List.map_cons, List.map_nil, List.zip_cons_cons, List.any_cons, List.any_nil, Bool.or_eq_false_iff] at h2
    exact ⟨h2.1, h2.2.1⟩
theorem top1 {vs : List Val} {w1 : Option Kd} (h : need (vs.map Val.kd) [w1] = none) : ∃ us a, vs = us ++ [a] ∧ bad (a.kd, w1) = false := by
  obtain ⟨h1, h2⟩ := need_none h
  simp only [List.length_map, List.length_cons, List.length_nil] at h1 h2
  obtain ⟨us, ys, rfl, hy⟩ : ∃ us ys, vs = us ++ ys ∧ ys.length = 1 := ⟨vs.take (vs.length - 1), vs.drop (vs.length - 1), (List.take_append_drop _ _).symm, by rw [List.length_drop]; omega⟩
  match ys, hy with
  | [a], _ =>
    refine ⟨us, a, rfl, ?_⟩
    rw [show (us ++ [a]).length - (0 + 1) = us.length from by simp] at h2
    rw [List.map_append, ← List.length_map (f := Val.kd) (as := us), List.drop_left] at h2
    simp only [List.map_cons, List.map_nil, List.zip_cons_cons, List.any_cons, List.any_nil, Bool.or_eq_false_iff] at h2
    exact h2.1
theorem cut1 (us : List Val) (a : Val) : cut (encV (us ++ [a])) none (some (-1)) = encV us := by
  have := cut_neg (encV (us ++ [a])) 1 (by decide)
  rw [show (-((1 : Nat) : Int)) = -1 from rfl] at this
  rw [this]
  simp
theorem cut2 (us : List Val) (a b : Val) : cut (encV (us ++ [a, b])) none (some (-2)) = encV us := by
  have := cut_neg (encV (us ++ [a, b])) 2 (by decide)
  rw [show (-((2 : Nat) : Int)) = -2 from rfl] at this
  rw [this]
  simp
theorem at1 (us : List Val) (a : Val) : atI (encV (us ++ [a])) (-1) = some a.enc := by
  have := atI_neg (encV (us ++ [a])) 1 (by decide) (by simp)
  rw [show (-((1 : Nat) : Int)) = -1 from rfl] at this
  rw [this]
  simp
theorem at21 (us : List Val) (a b : Val) : atI (encV (us ++ [a, b])) (-1) = some b.enc := by
  have := atI_neg (encV (us ++ [a, b])) 1 (by decide) (by simp)
  rw [show (-((1 : Nat) : Int)) = -1 from rfl] at this
  rw [this]
  simp
theorem at22 (us : List Val) (a b : Val) : atI (encV (us ++ [a, b])) (-2) = some a.enc := by
  have := atI_neg (encV (us ++ [a, b])) 2 (by decide) (by simp)
  rw [show (-((2 : Nat) : Int)) = -2 from rfl] at this
  rw [this]
  simp
theorem bad_kd {k : Kd} {a : Val} (h : bad (a.kd, some k) = false) : a.kd = k := bad_some h
theorem done_ok (w : W) (vs : List Val) (r : Row) (st : Store) (hw : asD st w = some (.lst (encV vs))) (hv : ∀ v ∈ vs, v.ok) (hr : r.ok) (hl : vs.length ≤ 300000) :
    s_p_done [w, .d r.enc] st = match need (vs.map Val.kd) r.wants with | some e => .err e st | none => .ok (.c st.length) (st ++ [.lst (encV (doneV r vs))]) := by
  unfold s_p_done b_p_done
  have hx : w.isExc = false := noExc_of hw
  have hsz : (List.drop (vs.length - r.wants.length) (encV vs)).length ≤ sizeLine := by rw [List.length_drop, List.length_map]; exact small (by omega)
  have e2 : asD st (.d (.lst (List.drop (vs.length - r.wants.length) (encV vs)))) = some (.lst (encV (vs.drop (vs.length - r.wants.length)))) := by simp only [asD, List.map_drop]
  have e3 := kinds_of_ok (vs.drop (vs.length - r.wants.length)) (.d (.lst (List.drop (vs.length - r.wants.length) (encV vs)))) st e2 ⟨_, rfl⟩ (by rw [List.length_drop]; omega)
  have e4 := need_ok ((vs.drop (vs.length - r.wants.length)).map Val.kd) r.wants st (by rw [List.length_map, List.length_drop]; omega)
  rw [List.map_map] at e4
  rw [need_tail] at e4
  simp only [szs, fnM, rawM, seqM, ifM, tvM, truM, binM, unM, appM, consA, nilA, varM, conM, retM, retN, asgM, expM, raiseM, passS, callF, app1, app2, noExc, isExc_d, isExc_c, bindS_ok, bindS_err, bindS_stuck, Res.bind_ok, Res.bind_err, Res.bind_stuck, onBl_bl, andT, orT, notT, andV, orV, notV, tupM, lstM, toDs, toD, asD_d, asD_new, frzW_d, newT, newL, slM, slW, someO, noneO, ixW, addW, subW, mulW, modW, cmpW, negW, lenW, intW, tabW, isNonB, isNonW, isNon_d, List.map_cons, List.map_nil, List.length_cons, List.length_nil, List.replicate, List.append_nil, List.nil_append, List.cons_append, List.getElem?_cons_zero, List.getElem?_cons_succ, List.set_cons_zero, List.set_cons_succ, Nat.reduceAdd, Nat.reduceSub, if_true, if_false, ite_true, ite_false, Bool.not_true, Bool.not_false, Bool.and_true, Bool.and_false, Bool.false_eq_true, reduceIte, fin_same, finE_same, fin_new, atI_0, atI_1, atI_2, eqW_ofs, look_ofs, look_nil, dspC, newDc, inW, Option.isSome_some, Option.isSome_none, itM, forM, items_dl, items_dt, methL, methD, arg0, arg1, arg2, appendW, popW, listW, get_new, set_new, isLst_new, pow109, String.reduceBEq, String.reduceEq, Bool.false_or, Bool.true_or, Bool.or_false, Bool.or_true, wants_ok r hr, hw, maxW, List.length_map, max0, cut_from]
  rw [if_pos hsz]
  simp only [Res.bind_ok, noExc, W.isExc, Bool.not_false, Bool.and_true, if_true]
  rw [e3]
  simp only [Res.bind_ok, noExc, W.isExc, Bool.not_false, Bool.and_true, if_true]
  rw [show (List.map (fun v => v.kd.enc) (List.drop (vs.length - r.wants.length) vs)) = (List.map (Kd.enc ∘ Val.kd) (List.drop (vs.length - r.wants.length) vs)) from rfl, e4]
  cases q : need (vs.map Val.kd) r.wants with
  | some e => simp only [bindS_err, finE_same, Res.bind_err]
  | none =>
    simp only [bindS_ok, Res.bind_ok]
    have fx : ∀ (xs : List D), xs.length ≤ 600 → newL true xs st = .ok (.c st.length) (st ++ [.lst xs]) := fun xs h => by unfold newL; rw [if_pos (small (by omega))]; rfl
    have sz : ∀ n, (List.take n (encV vs)).length ≤ sizeLine := fun n => small (by rw [List.length_take, List.length_map]; omega)
    cases r with
    | num v =>
      simp only [Row.enc]
      simp only [szs, fnM, rawM, seqM, ifM, tvM, truM, binM, unM, appM, consA, nilA, varM, conM, retM, retN, asgM, expM, raiseM, passS, callF, app1, app2, noExc, isExc_d, isExc_c, bindS_ok, bindS_err, bindS_stuck, Res.bind_ok, Res.bind_err, Res.bind_stuck, onBl_bl, andT, orT, notT, andV, orV, notV, tupM, lstM, toDs, toD, asD_d, asD_new, frzW_d, newT, newL, slM, slW, someO, noneO, ixW, addW, subW, mulW, modW, cmpW, negW, lenW, intW, tabW, isNonB, isNonW, isNon_d, List.map_cons, List.map_nil, List.length_cons, List.length_nil, List.replicate, List.append_nil, List.nil_append, List.cons_append, List.getElem?_cons_zero, List.getElem?_cons_succ, List.set_cons_zero, List.set_cons_succ, Nat.reduceAdd, Nat.reduceSub, if_true, if_false, ite_true, ite_false, Bool.not_true, Bool.not_false, Bool.and_true, Bool.and_false, Bool.false_eq_true, reduceIte, fin_same, finE_same, fin_new, atI_0, atI_1, atI_2, eqW_ofs, look_ofs, look_nil, dspC, newDc, inW, Option.isSome_some, Option.isSome_none, itM, forM, items_dl, items_dt, methL, methD, arg0, arg1, arg2, appendW, popW, listW, get_new, set_new, isLst_new, pow109, String.reduceBEq, String.reduceEq, Bool.false_or, Bool.true_or, Bool.or_false, Bool.or_true, hw]
      rw [if_pos (small (by simp; omega))]
      simp only [bindS_ok, fin_new, doneV, encV, List.map_append, List.map_cons, List.map_nil, Val.enc]
    | text t =>
      simp only [Row.enc]
      simp only [szs, fnM, rawM, seqM, ifM, tvM, truM, binM, unM, appM, consA, nilA, varM, conM, retM, retN, asgM, expM, raiseM, passS, callF, app1, app2, noExc, isExc_d, isExc_c, bindS_ok, bindS_err, bindS_stuck, Res.bind_ok, Res.bind_err, Res.bind_stuck, onBl_bl, andT, orT, notT, andV, orV, notV, tupM, lstM, toDs, toD, asD_d, asD_new, frzW_d, newT, newL, slM, slW, someO, noneO, ixW, addW, subW, mulW, modW, cmpW, negW, lenW, intW, tabW, isNonB, isNonW, isNon_d, List.map_cons, List.map_nil, List.length_cons, List.length_nil, List.replicate, List.append_nil, List.nil_append, List.cons_append, List.getElem?_cons_zero, List.getElem?_cons_succ, List.set_cons_zero, List.set_cons_succ, Nat.reduceAdd, Nat.reduceSub, if_true, if_false, ite_true, ite_false, Bool.not_true, Bool.not_false, Bool.and_true, Bool.and_false, Bool.false_eq_true, reduceIte, fin_same, finE_same, fin_new, atI_0, atI_1, atI_2, eqW_ofs, look_ofs, look_nil, dspC, newDc, inW, Option.isSome_some, Option.isSome_none, itM, forM, items_dl, items_dt, methL, methD, arg0, arg1, arg2, appendW, popW, listW, get_new, set_new, isLst_new, pow109, String.reduceBEq, String.reduceEq, Bool.false_or, Bool.true_or, Bool.or_false, Bool.or_true, hw]
      rw [if_pos (small (by simp; omega))]
      simp only [bindS_ok, fin_new, doneV, encV, List.map_append, List.map_cons, List.map_nil, Val.enc]
    | copy k =>
      have hk : k + 1 ≤ vs.length := by
        have := (need_none q).1
        simpa [Row.wants] using this
      have e5 : (vs.length : Int) - 1 - (k : Int) = ((vs.length - 1 - k : Nat) : Int) := by omega
      have e6 : (encV vs)[vs.length - 1 - k]? = some (vs.reverse.getD k (.i 0)).enc := by
        rw [List.getElem?_map, List.getD_eq_getElem?_getD, List.getElem?_reverse (by omega)]
        have : vs.length - 1 - k < vs.length := by omega
        rw [List.getElem?_eq_getElem this]
        rfl
      simp only [Row.enc]
      simp only [szs, fnM, rawM, seqM, ifM, tvM, truM, binM, unM, appM, consA, nilA, varM, conM, retM, retN, asgM, expM, raiseM, passS, callF, app1, app2, noExc, isExc_d, isExc_c, bindS_ok, bindS_err, bindS_stuck, Res.bind_ok, Res.bind_err, Res.bind_stuck, onBl_bl, andT, orT, notT, andV, orV, notV, tupM, lstM, toDs, toD, asD_d, asD_new, frzW_d, newT, newL, slM, slW, someO, noneO, ixW, addW, subW, mulW, modW, cmpW, negW, lenW, intW, tabW, isNonB, isNonW, isNon_d, List.map_cons, List.map_nil, List.length_cons, List.length_nil, List.replicate, List.append_nil, List.nil_append, List.cons_append, List.getElem?_cons_zero, List.getElem?_cons_succ, List.set_cons_zero, List.set_cons_succ, Nat.reduceAdd, Nat.reduceSub, if_true, if_false, ite_true, ite_false, Bool.not_true, Bool.not_false, Bool.and_true, Bool.and_false, Bool.false_eq_true, reduceIte, fin_same, finE_same, fin_new, atI_0, atI_1, atI_2, eqW_ofs, look_ofs, look_nil, dspC, newDc, inW, Option.isSome_some, Option.isSome_none, itM, forM, items_dl, items_dt, methL, methD, arg0, arg1, arg2, appendW, popW, listW, get_new, set_new, isLst_new, pow109, String.reduceBEq, String.reduceEq, Bool.false_or, Bool.true_or, Bool.or_false, Bool.or_true, hw, List.length_map, e5, atI_nat, e6]
      rw [if_pos (small (by simp; omega))]
      simp only [bindS_ok, fin_new, doneV, encV, List.map_append, List.map_cons, List.map_nil]
    | op o =>
      cases o with
      | drop =>
        obtain ⟨us, a, rfl, _⟩ := top1 q
        have hl' : us.length ≤ 299999 := by simp at hl; omega
        have s0 : (encV us).length ≤ sizeLine := small (by rw [List.length_map]; omega)
        simp only [Row.enc, Op.s]
        simp only [szs, fnM, rawM, seqM, ifM, tvM, truM, binM, unM, appM, consA, nilA, varM, conM, retM, retN, asgM, expM, raiseM, passS, callF, app1, app2, noExc, isExc_d, isExc_c, bindS_ok, bindS_err, bindS_stuck, Res.bind_ok, Res.bind_err, Res.bind_stuck, onBl_bl, andT, orT, notT, andV, orV, notV, tupM, lstM, toDs, toD, asD_d, asD_new, frzW_d, newT, newL, slM, slW, someO, noneO, ixW, addW, subW, mulW, modW, cmpW, negW, lenW, intW, tabW, isNonB, isNonW, isNon_d, List.map_cons, List.map_nil, List.length_cons, List.length_nil, List.replicate, List.append_nil, List.nil_append, List.cons_append, List.getElem?_cons_zero, List.getElem?_cons_succ, List.set_cons_zero, List.set_cons_succ, Nat.reduceAdd, Nat.reduceSub, if_true, if_false, ite_true, ite_false, Bool.not_true, Bool.not_false, Bool.and_true, Bool.and_false, Bool.false_eq_true, reduceIte, fin_same, finE_same, fin_new, atI_0, atI_1, atI_2, eqW_ofs, look_ofs, look_nil, dspC, newDc, inW, Option.isSome_some, Option.isSome_none, itM, forM, items_dl, items_dt, methL, methD, arg0, arg1, arg2, appendW, popW, listW, get_new, set_new, isLst_new, pow109, String.reduceBEq, String.reduceEq, Bool.false_or, Bool.true_or, Bool.or_false, Bool.or_true, hw, cut1, s0, Int.reduceNeg]
        simp [doneV]
      | long =>
        obtain ⟨us, a, rfl, ha⟩ := top1 q
        have hl' : us.length ≤ 299999 := by simp at hl; omega
        have s0 : (encV us).length ≤ sizeLine := small (by rw [List.length_map]; omega)
        have s1 : ∀ x, (encV us ++ [x]).length ≤ sizeLine := fun x => small (by simp; omega)
        have ha := bad_kd ha
        have hok := hv a (by simp)
        cases a with
        | i _ => cases ha
        | s t =>
          have ht : t.length ≤ sizeLine := small (by have := hok.2; omega)
          simp only [Row.enc, Op.s]
          simp only [szs, fnM, rawM, seqM, ifM, tvM, truM, binM, unM, appM, consA, nilA, varM, conM, retM, retN, asgM, expM, raiseM, passS, callF, app1, app2, noExc, isExc_d, isExc_c, bindS_ok, bindS_err, bindS_stuck, Res.bind_ok, Res.bind_err, Res.bind_stuck, onBl_bl, andT, orT, notT, andV, orV, notV, tupM, lstM, toDs, toD, asD_d, asD_new, frzW_d, newT, newL, slM, slW, someO, noneO, ixW, addW, subW, mulW, modW, cmpW, negW, lenW, intW, tabW, isNonB, isNonW, isNon_d, List.map_cons, List.map_nil, List.length_cons, List.length_nil, List.replicate, List.append_nil, List.nil_append, List.cons_append, List.getElem?_cons_zero, List.getElem?_cons_succ, List.set_cons_zero, List.set_cons_succ, Nat.reduceAdd, Nat.reduceSub, if_true, if_false, ite_true, ite_false, Bool.not_true, Bool.not_false, Bool.and_true, Bool.and_false, Bool.false_eq_true, reduceIte, fin_same, finE_same, fin_new, atI_0, atI_1, atI_2, eqW_ofs, look_ofs, look_nil, dspC, newDc, inW, Option.isSome_some, Option.isSome_none, itM, forM, items_dl, items_dt, methL, methD, arg0, arg1, arg2, appendW, popW, listW, get_new, set_new, isLst_new, pow109, String.reduceBEq, String.reduceEq, Bool.false_or, Bool.true_or, Bool.or_false, Bool.or_true, hw, cut1, at1, s0, s1, Int.reduceNeg, Val.enc, ht]
          simp [doneV, Val.enc]
      | shw =>
        obtain ⟨us, a, rfl, ha⟩ := top1 q
        have hl' : us.length ≤ 299999 := by simp at hl; omega
        have s0 : (encV us).length ≤ sizeLine := small (by rw [List.length_map]; omega)
        have s1 : ∀ x, (encV us ++ [x]).length ≤ sizeLine := fun x => small (by simp; omega)
        have ha := bad_kd ha
        have hok := hv a (by simp)
        cases a with
        | s _ => cases ha
        | i n =>
          have ht : strOk9 n = true := strOk9_of hok.1 (by have := hok.2; omega)
          simp only [Row.enc, Op.s]
          simp only [szs, fnM, rawM, seqM, ifM, tvM, truM, binM, unM, appM, consA, nilA, varM, conM, retM, retN, asgM, expM, raiseM, passS, callF, app1, app2, noExc, isExc_d, isExc_c, bindS_ok, bindS_err, bindS_stuck, Res.bind_ok, Res.bind_err, Res.bind_stuck, onBl_bl, andT, orT, notT, andV, orV, notV, tupM, lstM, toDs, toD, asD_d, asD_new, frzW_d, newT, newL, slM, slW, someO, noneO, ixW, addW, subW, mulW, modW, cmpW, negW, lenW, intW, tabW, isNonB, isNonW, isNon_d, List.map_cons, List.map_nil, List.length_cons, List.length_nil, List.replicate, List.append_nil, List.nil_append, List.cons_append, List.getElem?_cons_zero, List.getElem?_cons_succ, List.set_cons_zero, List.set_cons_succ, Nat.reduceAdd, Nat.reduceSub, if_true, if_false, ite_true, ite_false, Bool.not_true, Bool.not_false, Bool.and_true, Bool.and_false, Bool.false_eq_true, reduceIte, fin_same, finE_same, fin_new, atI_0, atI_1, atI_2, eqW_ofs, look_ofs, look_nil, dspC, newDc, inW, Option.isSome_some, Option.isSome_none, itM, forM, items_dl, items_dt, methL, methD, arg0, arg1, arg2, appendW, popW, listW, get_new, set_new, isLst_new, pow109, String.reduceBEq, String.reduceEq, Bool.false_or, Bool.true_or, Bool.or_false, Bool.or_true, hw, cut1, at1, s0, s1, Int.reduceNeg, Val.enc, strW, ht]
          simp [doneV, Val.enc]
      | swap =>
        obtain ⟨us, a, b, rfl, _, _⟩ := top2 q
        have hl' : us.length ≤ 299998 := by simp at hl; omega
        have s0 : (encV us).length ≤ sizeLine := small (by rw [List.length_map]; omega)
        have s2 : ∀ x y, (encV us ++ [x, y]).length ≤ sizeLine := fun x y => small (by simp; omega)
        simp only [Row.enc, Op.s]
        simp only [szs, fnM, rawM, seqM, ifM, tvM, truM, binM, unM, appM, consA, nilA, varM, conM, retM, retN, asgM, expM, raiseM, passS, callF, app1, app2, noExc, isExc_d, isExc_c, bindS_ok, bindS_err, bindS_stuck, Res.bind_ok, Res.bind_err, Res.bind_stuck, onBl_bl, andT, orT, notT, andV, orV, notV, tupM, lstM, toDs, toD, asD_d, asD_new, frzW_d, newT, newL, slM, slW, someO, noneO, ixW, addW, subW, mulW, modW, cmpW, negW, lenW, intW, tabW, isNonB, isNonW, isNon_d, List.map_cons, List.map_nil, List.length_cons, List.length_nil, List.replicate, List.append_nil, List.nil_append, List.cons_append, List.getElem?_cons_zero, List.getElem?_cons_succ, List.set_cons_zero, List.set_cons_succ, Nat.reduceAdd, Nat.reduceSub, if_true, if_false, ite_true, ite_false, Bool.not_true, Bool.not_false, Bool.and_true, Bool.and_false, Bool.false_eq_true, reduceIte, fin_same, finE_same, fin_new, atI_0, atI_1, atI_2, eqW_ofs, look_ofs, look_nil, dspC, newDc, inW, Option.isSome_some, Option.isSome_none, itM, forM, items_dl, items_dt, methL, methD, arg0, arg1, arg2, appendW, popW, listW, get_new, set_new, isLst_new, pow109, String.reduceBEq, String.reduceEq, Bool.false_or, Bool.true_or, Bool.or_false, Bool.or_true, hw, cut2, at21, at22, s0, s2, Int.reduceNeg]
        simp [doneV]
      | add =>
        obtain ⟨us, a, b, rfl, ha, hb⟩ := top2 q
        have hl' : us.length ≤ 299998 := by simp at hl; omega
        have s0 : (encV us).length ≤ sizeLine := small (by rw [List.length_map]; omega)
        have s1 : ∀ x, (encV us ++ [x]).length ≤ sizeLine := fun x => small (by simp; omega)
        have ha := bad_kd ha
        have hb := bad_kd hb
        have hoa := hv a (by simp)
        have hob := hv b (by simp)
        have hR := reckoned_ok .add a b hoa hob (.inr ⟨.inl rfl, ha, hb⟩) st
        simp only [Row.enc, Op.s] at hR ⊢
        simp only [szs, fnM, rawM, seqM, ifM, tvM, truM, binM, unM, appM, consA, nilA, varM, conM, retM, retN, asgM, expM, raiseM, passS, callF, app1, app2, noExc, isExc_d, isExc_c, bindS_ok, bindS_err, bindS_stuck, Res.bind_ok, Res.bind_err, Res.bind_stuck, onBl_bl, andT, orT, notT, andV, orV, notV, tupM, lstM, toDs, toD, asD_d, asD_new, frzW_d, newT, newL, slM, slW, someO, noneO, ixW, addW, subW, mulW, modW, cmpW, negW, lenW, intW, tabW, isNonB, isNonW, isNon_d, List.map_cons, List.map_nil, List.length_cons, List.length_nil, List.replicate, List.append_nil, List.nil_append, List.cons_append, List.getElem?_cons_zero, List.getElem?_cons_succ, List.set_cons_zero, List.set_cons_succ, Nat.reduceAdd, Nat.reduceSub, if_true, if_false, ite_true, ite_false, Bool.not_true, Bool.not_false, Bool.and_true, Bool.and_false, Bool.false_eq_true, reduceIte, fin_same, finE_same, fin_new, atI_0, atI_1, atI_2, eqW_ofs, look_ofs, look_nil, dspC, newDc, inW, Option.isSome_some, Option.isSome_none, itM, forM, items_dl, items_dt, methL, methD, arg0, arg1, arg2, appendW, popW, listW, get_new, set_new, isLst_new, pow109, String.reduceBEq, String.reduceEq, Bool.false_or, Bool.true_or, Bool.or_false, Bool.or_true, hw, cut2, at21, at22, s0, s1, Int.reduceNeg, hR]
        simp [doneV]
      | mul =>
        obtain ⟨us, a, b, rfl, ha, hb⟩ := top2 q
        have hl' : us.length ≤ 299998 := by simp at hl; omega
        have s0 : (encV us).length ≤ sizeLine := small (by rw [List.length_map]; omega)
        have s1 : ∀ x, (encV us ++ [x]).length ≤ sizeLine := fun x => small (by simp; omega)
        have ha := bad_kd ha
        have hb := bad_kd hb
        have hoa := hv a (by simp)
        have hob := hv b (by simp)
        have hR := reckoned_ok .mul a b hoa hob (.inr ⟨.inr (.inl rfl), ha, hb⟩) st
        simp only [Row.enc, Op.s] at hR ⊢
        simp only [szs, fnM, rawM, seqM, ifM, tvM, truM, binM, unM, appM, consA, nilA, varM, conM, retM, retN, asgM, expM, raiseM, passS, callF, app1, app2, noExc, isExc_d, isExc_c, bindS_ok, bindS_err, bindS_stuck, Res.bind_ok, Res.bind_err, Res.bind_stuck, onBl_bl, andT, orT, notT, andV, orV, notV, tupM, lstM, toDs, toD, asD_d, asD_new, frzW_d, newT, newL, slM, slW, someO, noneO, ixW, addW, subW, mulW, modW, cmpW, negW, lenW, intW, tabW, isNonB, isNonW, isNon_d, List.map_cons, List.map_nil, List.length_cons, List.length_nil, List.replicate, List.append_nil, List.nil_append, List.cons_append, List.getElem?_cons_zero, List.getElem?_cons_succ, List.set_cons_zero, List.set_cons_succ, Nat.reduceAdd, Nat.reduceSub, if_true, if_false, ite_true, ite_false, Bool.not_true, Bool.not_false, Bool.and_true, Bool.and_false, Bool.false_eq_true, reduceIte, fin_same, finE_same, fin_new, atI_0, atI_1, atI_2, eqW_ofs, look_ofs, look_nil, dspC, newDc, inW, Option.isSome_some, Option.isSome_none, itM, forM, items_dl, items_dt, methL, methD, arg0, arg1, arg2, appendW, popW, listW, get_new, set_new, isLst_new, pow109, String.reduceBEq, String.reduceEq, Bool.false_or, Bool.true_or, Bool.or_false, Bool.or_true, hw, cut2, at21, at22, s0, s1, Int.reduceNeg, hR]
        simp [doneV]
      | less =>
        obtain ⟨us, a, b, rfl, ha, hb⟩ := top2 q
        have hl' : us.length ≤ 299998 := by simp at hl; omega
        have s0 : (encV us).length ≤ sizeLine := small (by rw [List.length_map]; omega)
        have s1 : ∀ x, (encV us ++ [x]).length ≤ sizeLine := fun x => small (by simp; omega)
        have ha := bad_kd ha
        have hb := bad_kd hb
        have hoa := hv a (by simp)
        have hob := hv b (by simp)
        have hR := reckoned_ok .less a b hoa hob (.inr ⟨.inr (.inr rfl), ha, hb⟩) st
        simp only [Row.enc, Op.s] at hR ⊢
        simp only [szs, fnM, rawM, seqM, ifM, tvM, truM, binM, unM, appM, consA, nilA, varM, conM, retM, retN, asgM, expM, raiseM, passS, callF, app1, app2, noExc, isExc_d, isExc_c, bindS_ok, bindS_err, bindS_stuck, Res.bind_ok, Res.bind_err, Res.bind_stuck, onBl_bl, andT, orT, notT, andV, orV, notV, tupM, lstM, toDs, toD, asD_d, asD_new, frzW_d, newT, newL, slM, slW, someO, noneO, ixW, addW, subW, mulW, modW, cmpW, negW, lenW, intW, tabW, isNonB, isNonW, isNon_d, List.map_cons, List.map_nil, List.length_cons, List.length_nil, List.replicate, List.append_nil, List.nil_append, List.cons_append, List.getElem?_cons_zero, List.getElem?_cons_succ, List.set_cons_zero, List.set_cons_succ, Nat.reduceAdd, Nat.reduceSub, if_true, if_false, ite_true, ite_false, Bool.not_true, Bool.not_false, Bool.and_true, Bool.and_false, Bool.false_eq_true, reduceIte, fin_same, finE_same, fin_new, atI_0, atI_1, atI_2, eqW_ofs, look_ofs, look_nil, dspC, newDc, inW, Option.isSome_some, Option.isSome_none, itM, forM, items_dl, items_dt, methL, methD, arg0, arg1, arg2, appendW, popW, listW, get_new, set_new, isLst_new, pow109, String.reduceBEq, String.reduceEq, Bool.false_or, Bool.true_or, Bool.or_false, Bool.or_true, hw, cut2, at21, at22, s0, s1, Int.reduceNeg, hR]
        simp [doneV]
      | join =>
        obtain ⟨us, a, b, rfl, ha, hb⟩ := top2 q
        have hl' : us.length ≤ 299998 := by simp at hl; omega
        have s0 : (encV us).length ≤ sizeLine := small (by rw [List.length_map]; omega)
        have s1 : ∀ x, (encV us ++ [x]).length ≤ sizeLine := fun x => small (by simp; omega)
        have ha := bad_kd ha
        have hb := bad_kd hb
        have hoa := hv a (by simp)
        have hob := hv b (by simp)
        have hR := reckoned_ok .join a b hoa hob (.inl ⟨rfl, ha, hb⟩) st
        simp only [Row.enc, Op.s] at hR ⊢
        simp only [szs, fnM, rawM, seqM, ifM, tvM, truM, binM, unM, appM, consA, nilA, varM, conM, retM, retN, asgM, expM, raiseM, passS, callF, app1, app2, noExc, isExc_d, isExc_c, bindS_ok, bindS_err, bindS_stuck, Res.bind_ok, Res.bind_err, Res.bind_stuck, onBl_bl, andT, orT, notT, andV, orV, notV, tupM, lstM, toDs, toD, asD_d, asD_new, frzW_d, newT, newL, slM, slW, someO, noneO, ixW, addW, subW, mulW, modW, cmpW, negW, lenW, intW, tabW, isNonB, isNonW, isNon_d, List.map_cons, List.map_nil, List.length_cons, List.length_nil, List.replicate, List.append_nil, List.nil_append, List.cons_append, List.getElem?_cons_zero, List.getElem?_cons_succ, List.set_cons_zero, List.set_cons_succ, Nat.reduceAdd, Nat.reduceSub, if_true, if_false, ite_true, ite_false, Bool.not_true, Bool.not_false, Bool.and_true, Bool.and_false, Bool.false_eq_true, reduceIte, fin_same, finE_same, fin_new, atI_0, atI_1, atI_2, eqW_ofs, look_ofs, look_nil, dspC, newDc, inW, Option.isSome_some, Option.isSome_none, itM, forM, items_dl, items_dt, methL, methD, arg0, arg1, arg2, appendW, popW, listW, get_new, set_new, isLst_new, pow109, String.reduceBEq, String.reduceEq, Bool.false_or, Bool.true_or, Bool.or_false, Bool.or_true, hw, cut2, at21, at22, s0, s1, Int.reduceNeg, hR]
        simp [doneV]
end Py

namespace Py
open PySem L2
end Py

namespace Py
open PySem L2
/-- its texts are texts -/
def Val.fine : Val → Prop | .i _ => True | .s t => PyData.strOk t = true
theorem Val.ok.fine {v : Val} (h : v.ok) : v.fine := by
  cases v with
  | i _ => trivial
  | s _ => exact h.1
theorem fineL_of : ∀ {vs : List Val}, (∀ v ∈ vs, v.fine) → fineL (encV vs) = true
  | [], _ => rfl
  | v :: vs, h => by
    have h1 := h v List.mem_cons_self
    have h2 := fineL_of fun u hu => h u (List.mem_cons_of_mem v hu)
    show (v.enc.fine && fineL (encV vs)) = true
    rw [h2, Bool.and_true]
    cases v with
    | i n => rfl
    | s t => exact h1
theorem depL_of : ∀ (vs : List Val), depL (encV vs) = 0
  | [] => rfl
  | v :: vs => by
    show max v.enc.dep (depL (encV vs)) = 0
    rw [depL_of vs]
    cases v <;> rfl
theorem eqvL_refl : ∀ (vs : List Val), eqvL (encV vs) (encV vs) = true
  | [] => rfl
  | v :: vs => by
    show (v.enc.eqv v.enc && eqvL (encV vs) (encV vs)) = true
    rw [eqvL_refl vs, Bool.and_true]
    cases v <;> simp [Val.enc, D.eqv]
theorem eqD_lst {vs : List Val} (h : ∀ v ∈ vs, v.fine) : eqD (.lst (encV vs)) (.lst (encV vs)) = some true := by
  unfold eqD
  simp only [D.fine, D.dep, fineL_of h, depL_of, D.eqv, eqvL_refl]
  simp
theorem eqW_bl (neg : Bool) (a b : Bool) (st : Store) : eqW neg (.d (.bl a)) (.d (.bl b)) st = .ok (.d (.bl (if neg then !(a == b) else a == b))) st := by
  unfold eqW eqD
  simp [asD, D.fine, D.dep, D.eqv]
theorem eqW_int (neg : Bool) (a b : Int) (st : Store) : eqW neg (.d (.int a)) (.d (.int b)) st = .ok (.d (.bl (if neg then !(a == b) else a == b))) st := by
  unfold eqW eqD
  simp [asD, D.fine, D.dep, D.eqv]
theorem alike_ok (a b : W) (vs : List Val) (st : Store) (ha : asD st a = some (.lst (encV vs))) (hb : asD st b = some (.lst (encV vs))) (hv : ∀ v ∈ vs, v.fine) (hl : vs.length ≤ 400000) : s_alike [a, b] st = .ok (.d (.bl true)) st := by
  unfold s_alike b_alike
  have hx : a.isExc = false := noExc_of ha
  have hy : b.isExc = false := noExc_of hb
  have hlen : ((encV vs).length : Int) = (vs.length : Int) := by rw [List.length_map]
  simp only [szs, fnM, rawM, seqM, ifM, tvM, truM, binM, unM, appM, consA, nilA, varM, conM, retM, retN, asgM, expM, raiseM, passS, callF, app1, app2, noExc, isExc_d, isExc_c, bindS_ok, bindS_err, bindS_stuck, Res.bind_ok, Res.bind_err, Res.bind_stuck, onBl_bl, andT, orT, notT, andV, orV, notV, tupM, lstM, toDs, toD, asD_d, asD_new, frzW_d, newT, newL, slM, slW, someO, noneO, ixW, addW, subW, mulW, modW, cmpW, negW, lenW, intW, tabW, isNonB, isNonW, isNon_d, List.map_cons, List.map_nil, List.length_cons, List.length_nil, List.replicate, List.append_nil, List.nil_append, List.cons_append, List.getElem?_cons_zero, List.getElem?_cons_succ, List.set_cons_zero, List.set_cons_succ, Nat.reduceAdd, Nat.reduceSub, if_true, if_false, ite_true, ite_false, Bool.not_true, Bool.not_false, Bool.and_true, Bool.and_false, Bool.false_eq_true, reduceIte, fin_same, finE_same, fin_new, atI_0, atI_1, atI_2, eqW_ofs, look_ofs, look_nil, dspC, newDc, inW, Option.isSome_some, Option.isSome_none, itM, forM, items_dl, items_dt, methL, methD, arg0, arg1, arg2, appendW, popW, listW, get_new, set_new, isLst_new, pow109, String.reduceBEq, String.reduceEq, Bool.false_or, Bool.true_or, Bool.or_false, Bool.or_true, forM, isi1, tyOf_lst ha, ha, hb, eqW_int, hlen, beq_self_eq_true]
  simp only [isiOne]
  simp
  rw [rng_ok _ _ st st vs.length (by simp only [szs, fnM, rawM, seqM, ifM, tvM, truM, binM, unM, appM, consA, nilA, varM, conM, retM, retN, asgM, expM, raiseM, passS, callF, app1, app2, noExc, isExc_d, isExc_c, bindS_ok, bindS_err, bindS_stuck, Res.bind_ok, Res.bind_err, Res.bind_stuck, onBl_bl, andT, orT, notT, andV, orV, notV, tupM, lstM, toDs, toD, asD_d, asD_new, frzW_d, newT, newL, slM, slW, someO, noneO, ixW, addW, subW, mulW, modW, cmpW, negW, lenW, intW, tabW, isNonB, isNonW, isNon_d, List.map_cons, List.map_nil, List.length_cons, List.length_nil, List.replicate, List.append_nil, List.nil_append, List.cons_append, List.getElem?_cons_zero, List.getElem?_cons_succ, List.set_cons_zero, List.set_cons_succ, Nat.reduceAdd, Nat.reduceSub, if_true, if_false, ite_true, ite_false, Bool.not_true, Bool.not_false, Bool.and_true, Bool.and_false, Bool.false_eq_true, reduceIte, fin_same, finE_same, fin_new, atI_0, atI_1, atI_2, eqW_ofs, look_ofs, look_nil, dspC, newDc, inW, Option.isSome_some, Option.isSome_none, itM, forM, items_dl, items_dt, methL, methD, arg0, arg1, arg2, appendW, popW, listW, get_new, set_new, isLst_new, pow109, String.reduceBEq, String.reduceEq, Bool.false_or, Bool.true_or, Bool.or_false, Bool.or_true, hb, hlen]) (by omega)]
  simp only [bindS_ok]
  obtain ⟨env', st', h1, h2⟩ := loop_inv (t := .name 2) (body := (seqM (ifM (tvM (binM (eqW true) (unM (isi1 "str") (binM ixW (varM 1) (varM 2))) (unM (isi1 "str") (binM ixW (varM 0) (varM 2)))))
 (retM (conM (.bl false)))
 passS)
 (ifM (andT (notT (tvM (unM (isi1 "str") (binM ixW (varM 1) (varM 2))))) (orT (tvM (unM (isi1 "bool") (binM ixW (varM 0) (varM 2)))) (notT (tvM (unM (isi1 "int") (binM ixW (varM 0) (varM 2)))))))
 (retM (conM (.bl false)))
 passS)))
    (fun ys env st1 => st1 = st ∧ (∃ x, env = [some a, some b, x]) ∧ ∀ y ∈ ys, y ∈ uptoD vs.length) (uptoD vs.length) [some a, some b, none] st
    (fun x ys env st1 ⟨e1, ⟨z, e2⟩, e3⟩ => by
      obtain ⟨i, hi, rfl⟩ := mem_upto (e3 x List.mem_cons_self)
      subst e1 e2
      have a1 : (encV vs)[i]? = some (vs[i]).enc := by rw [List.getElem?_map, List.getElem?_eq_getElem hi]; rfl
      refine ⟨[some a, some b, some (.d (.int i))], [some a, some b, some (.d (.int i))], st1, rfl, ?_, rfl, ⟨_, rfl⟩, fun y hy => e3 y (List.mem_cons_of_mem _ hy)⟩
      generalize vs[i] = v at a1
      cases v <;> simp [seqM, ifM, tvM, binM, unM, varM, conM, retM, passS, andT, orT, notT, Res.bind, bindS, onBl, W.bl?, ixW, asD_d, ha, hb, atI_nat, a1, isi1, tyOf, Val.enc, isiOne, eqW_bl])
    ⟨rfl, ⟨_, rfl⟩, fun y hy => hy⟩
  rw [h1]
  obtain ⟨rfl, ⟨x, rfl⟩, _⟩ := h2
  simp only [szs, fnM, rawM, seqM, ifM, tvM, truM, binM, unM, appM, consA, nilA, varM, conM, retM, retN, asgM, expM, raiseM, passS, callF, app1, app2, noExc, isExc_d, isExc_c, bindS_ok, bindS_err, bindS_stuck, Res.bind_ok, Res.bind_err, Res.bind_stuck, onBl_bl, andT, orT, notT, andV, orV, notV, tupM, lstM, toDs, toD, asD_d, asD_new, frzW_d, newT, newL, slM, slW, someO, noneO, ixW, addW, subW, mulW, modW, cmpW, negW, lenW, intW, tabW, isNonB, isNonW, isNon_d, List.map_cons, List.map_nil, List.length_cons, List.length_nil, List.replicate, List.append_nil, List.nil_append, List.cons_append, List.getElem?_cons_zero, List.getElem?_cons_succ, List.set_cons_zero, List.set_cons_succ, Nat.reduceAdd, Nat.reduceSub, if_true, if_false, ite_true, ite_false, Bool.not_true, Bool.not_false, Bool.and_true, Bool.and_false, Bool.false_eq_true, reduceIte, fin_same, finE_same, fin_new, atI_0, atI_1, atI_2, eqW_ofs, look_ofs, look_nil, dspC, newDc, inW, Option.isSome_some, Option.isSome_none, itM, forM, items_dl, items_dt, methL, methD, arg0, arg1, arg2, appendW, popW, listW, get_new, set_new, isLst_new, pow109, String.reduceBEq, String.reduceEq, Bool.false_or, Bool.true_or, Bool.or_false, Bool.or_true, eqW, ha, hb, eqD_lst hv]
/-! ### draws -/
abbrev tc (t : Int) : Cell := .lst [.int t]
theorem asD_set {st : Store} {k : Nat} {xs : List D} (h : k < st.length) : asD (st.set k (.lst xs)) (.c k) = some (.lst xs) := by
  simp [asD, h]
theorem fin_set (st : Store) (x : D) (k : Nat) (xs : List D) : fin st (.d x) (st.set k (.lst xs)) = .ok (.d x) (st.set k (.lst xs)) := by
  unfold fin
  rw [if_pos]
  · simp only
    rw [List.take_of_length_le (by rw [List.length_set]; exact Nat.le_refl _)]
  · refine ⟨by rw [List.length_set]; exact Nat.le_refl _, fun j fs hj h => ?_⟩
    rw [List.getElem?_set] at h
    split at h
    · split at h
      · cases h
      · cases h
    · exact h
theorem ixN10 : ixN 1 0 = some 0 := rfl
theorem draw_ok (ns : List Int) (k : Nat) (t m : Int) (st : Store) (hk : st[k]? = some (tc t)) (h0 : 0 ≤ t) (h1 : t ≤ 1000000) (hm : 0 < m) :
    ∃ v, 0 ≤ v ∧ v < m ∧ s_draw [.d (.scr ns), .c k, .d (.int m)] st = .ok (.d (.int v)) (st.set k (tc (t + 1))) := by
  have hlt : k < st.length := (List.getElem?_eq_some_iff.mp hk).1
  have hg : (st.set k (tc (t + 1)))[k]? = some (tc (t + 1)) := by simp [hlt]
  have ha : asD st (.c k) = some (.lst [.int t]) := by simp [asD, hk]
  have hb : asD (st.set k (tc (t + 1))) (.c k) = some (.lst [.int (t + 1)]) := asD_set hlt
  unfold s_draw b_draw
  have hb' : asD (st.set k (.lst [.int (t + 1)])) (.c k) = some (.lst [.int (t + 1)]) := hb
  have hg' : (st.set k (.lst [.int (t + 1)]))[k]? = some (.lst [.int (t + 1)]) := hg
  by_cases c : t + 1 ≤ (ns.length : Int)
  · have hi : t.toNat < ns.length := by omega
    have e1 : atI ns (t + 1 - 1) = some (ns[t.toNat]) := by
      have : t + 1 - 1 = ((t.toNat : Nat) : Int) := by omega
      rw [this, atI_nat, List.getElem?_eq_getElem hi]
    refine ⟨ns[t.toNat] % m, Int.emod_nonneg _ (by omega), Int.emod_lt_of_pos _ hm, ?_⟩
    simp only [szs, fnM, rawM, seqM, ifM, tvM, truM, binM, unM, appM, consA, nilA, varM, conM, retM, retN, asgM, expM, raiseM, passS, callF, app1, app2, noExc, isExc_d, isExc_c, bindS_ok, bindS_err, bindS_stuck, Res.bind_ok, Res.bind_err, Res.bind_stuck, onBl_bl, andT, orT, notT, andV, orV, notV, tupM, lstM, toDs, toD, asD_d, asD_new, frzW_d, newT, newL, slM, slW, someO, noneO, ixW, addW, subW, mulW, modW, cmpW, negW, lenW, intW, tabW, isNonB, isNonW, isNon_d, List.map_cons, List.map_nil, List.length_cons, List.length_nil, List.replicate, List.append_nil, List.nil_append, List.cons_append, List.getElem?_cons_zero, List.getElem?_cons_succ, List.set_cons_zero, List.set_cons_succ, Nat.reduceAdd, Nat.reduceSub, if_true, if_false, ite_true, ite_false, Bool.not_true, Bool.not_false, Bool.and_true, Bool.and_false, Bool.false_eq_true, reduceIte, fin_same, finE_same, fin_new, atI_0, atI_1, atI_2, eqW_ofs, look_ofs, look_nil, dspC, newDc, inW, Option.isSome_some, Option.isSome_none, itM, forM, items_dl, items_dt, methL, methD, arg0, arg1, arg2, appendW, popW, listW, get_new, set_new, isLst_new, pow109, String.reduceBEq, String.reduceEq, Bool.false_or, Bool.true_or, Bool.or_false, Bool.or_true, setLM, ha, hk, ixN10, List.set_cons_zero, hb', leW, c, decide_true, e1, hm, fin_set]
  · have c' : (decide (t + 1 ≤ (ns.length : Int))) = false := decide_eq_false c
    have hsz : ((cut ns none (some 4)).map D.int).length ≤ sizeLine := by
      rw [List.length_map, show (some (4 : Int)) = some ((4 : Nat) : Int) from rfl, cut_to]
      exact small (by rw [List.length_take]; omega)
    obtain ⟨env', st', h1, h2⟩ := loop_inv (t := .name 4) (body := (asgM 3 (binM modW (binM (addW false) (binM (mulW false) (varM 3) (conM (.int 131))) (varM 4)) (conM (.int 1000003)))))
      (fun ys env s1 => s1 = st.set k (.lst [.int (t + 1)]) ∧ (∃ y x, env = [some (.d (.scr ns)), some (.c k), some (.d (.int m)), some (.d (.int y)), x]) ∧ ∀ y ∈ ys, ∃ i : Int, y = .int i) ((cut ns none (some 4)).map .int) [some (.d (.scr ns)), some (.c k), some (.d (.int m)), some (.d (.int ns.length)), none] (st.set k (.lst [.int (t + 1)]))
      (fun x ys env s1 ⟨q1, ⟨y, z, q2⟩, q3⟩ => by
        obtain ⟨i, rfl⟩ := q3 x List.mem_cons_self
        subst q1 q2
        refine ⟨_, [some (.d (.scr ns)), some (.c k), some (.d (.int m)), some (.d (.int ((y * 131 + i) % 1000003))), some (.d (.int i))], _, rfl, ?_, rfl, ⟨_, _, rfl⟩, fun y hy => q3 y (List.mem_cons_of_mem _ hy)⟩
        simp only [szs, fnM, rawM, seqM, ifM, tvM, truM, binM, unM, appM, consA, nilA, varM, conM, retM, retN, asgM, expM, raiseM, passS, callF, app1, app2, noExc, isExc_d, isExc_c, bindS_ok, bindS_err, bindS_stuck, Res.bind_ok, Res.bind_err, Res.bind_stuck, onBl_bl, andT, orT, notT, andV, orV, notV, tupM, lstM, toDs, toD, asD_d, asD_new, frzW_d, newT, newL, slM, slW, someO, noneO, ixW, addW, subW, mulW, modW, cmpW, negW, lenW, intW, tabW, isNonB, isNonW, isNon_d, List.map_cons, List.map_nil, List.length_cons, List.length_nil, List.replicate, List.append_nil, List.nil_append, List.cons_append, List.getElem?_cons_zero, List.getElem?_cons_succ, List.set_cons_zero, List.set_cons_succ, Nat.reduceAdd, Nat.reduceSub, if_true, if_false, ite_true, ite_false, Bool.not_true, Bool.not_false, Bool.and_true, Bool.and_false, Bool.false_eq_true, reduceIte, fin_same, finE_same, fin_new, atI_0, atI_1, atI_2, eqW_ofs, look_ofs, look_nil, dspC, newDc, inW, Option.isSome_some, Option.isSome_none, itM, forM, items_dl, items_dt, methL, methD, arg0, arg1, arg2, appendW, popW, listW, get_new, set_new, isLst_new, pow109, String.reduceBEq, String.reduceEq, Bool.false_or, Bool.true_or, Bool.or_false, Bool.or_true, mulOk_r (i := y) (j := 131) (by decide) (by decide), show ((0 : Int) < 1000003) = True from by simp])
      ⟨rfl, ⟨_, _, rfl⟩, fun y hy => by obtain ⟨i, _, rfl⟩ := List.mem_map.mp hy; exact ⟨i, rfl⟩⟩
    obtain ⟨rfl, ⟨y, x, rfl⟩, _⟩ := h2
    have tt : 0 ≤ (t + 1) * (t + 1) ∧ (t + 1) * (t + 1) ≤ 1000001 * 1000001 := ⟨Int.mul_nonneg (by omega) (by omega), Int.mul_le_mul (by omega) (by omega) (by omega) (by decide)⟩
    have m1 : mulOk (t + 1) (t + 1) = true := mulOk_l (by omega) (by omega)
    have m2 : mulOk (y + 7) ((t + 1) * (t + 1) + 48271) = true := mulOk_r (by omega) (by omega)
    refine ⟨(y + 7) * ((t + 1) * (t + 1) + 48271) % 1000003 % m, Int.emod_nonneg _ (by omega), Int.emod_lt_of_pos _ hm, ?_⟩
    simp only [szs, fnM, rawM, seqM, ifM, tvM, truM, binM, unM, appM, consA, nilA, varM, conM, retM, retN, asgM, expM, raiseM, passS, callF, app1, app2, noExc, isExc_d, isExc_c, bindS_ok, bindS_err, bindS_stuck, Res.bind_ok, Res.bind_err, Res.bind_stuck, onBl_bl, andT, orT, notT, andV, orV, notV, tupM, lstM, toDs, toD, asD_d, asD_new, frzW_d, newT, newL, slM, slW, someO, noneO, ixW, addW, subW, mulW, modW, cmpW, negW, lenW, intW, tabW, isNonB, isNonW, isNon_d, List.map_cons, List.map_nil, List.length_cons, List.length_nil, List.replicate, List.append_nil, List.nil_append, List.cons_append, List.getElem?_cons_zero, List.getElem?_cons_succ, List.set_cons_zero, List.set_cons_succ, Nat.reduceAdd, Nat.reduceSub, if_true, if_false, ite_true, ite_false, Bool.not_true, Bool.not_false, Bool.and_true, Bool.and_false, Bool.false_eq_true, reduceIte, fin_same, finE_same, fin_new, atI_0, atI_1, atI_2, eqW_ofs, look_ofs, look_nil, dspC, newDc, inW, Option.isSome_some, Option.isSome_none, itM, forM, items_dl, items_dt, methL, methD, arg0, arg1, arg2, appendW, popW, listW, get_new, set_new, isLst_new, pow109, String.reduceBEq, String.reduceEq, Bool.false_or, Bool.true_or, Bool.or_false, Bool.or_true, setLM, ha, hk, ixN10, List.set_cons_zero, hb', leW, c', hsz]
    rw [h1]
    simp only [szs, fnM, rawM, seqM, ifM, tvM, truM, binM, unM, appM, consA, nilA, varM, conM, retM, retN, asgM, expM, raiseM, passS, callF, app1, app2, noExc, isExc_d, isExc_c, bindS_ok, bindS_err, bindS_stuck, Res.bind_ok, Res.bind_err, Res.bind_stuck, onBl_bl, andT, orT, notT, andV, orV, notV, tupM, lstM, toDs, toD, asD_d, asD_new, frzW_d, newT, newL, slM, slW, someO, noneO, ixW, addW, subW, mulW, modW, cmpW, negW, lenW, intW, tabW, isNonB, isNonW, isNon_d, List.map_cons, List.map_nil, List.length_cons, List.length_nil, List.replicate, List.append_nil, List.nil_append, List.cons_append, List.getElem?_cons_zero, List.getElem?_cons_succ, List.set_cons_zero, List.set_cons_succ, Nat.reduceAdd, Nat.reduceSub, if_true, if_false, ite_true, ite_false, Bool.not_true, Bool.not_false, Bool.and_true, Bool.and_false, Bool.false_eq_true, reduceIte, fin_same, finE_same, fin_new, atI_0, atI_1, atI_2, eqW_ofs, look_ofs, look_nil, dspC, newDc, inW, Option.isSome_some, Option.isSome_none, itM, forM, items_dl, items_dt, methL, methD, arg0, arg1, arg2, appendW, popW, listW, get_new, set_new, isLst_new, pow109, String.reduceBEq, String.reduceEq, Bool.false_or, Bool.true_or, Bool.or_false, Bool.or_true, hb', m1, m2, hm, show ((0 : Int) < 1000003) = True from by simp, fin_set]
end Py

namespace Py
open PySem L2
theorem strOk_append {a b : Str} (ha : PyData.strOk a = true) (hb : PyData.strOk b = true) : PyData.strOk (a ++ b) = true := by
  unfold PyData.strOk at ha hb ⊢
  rw [← Array.all_toList] at ha hb ⊢
  show ((a.cps ++ b.cps).toList.all _) = true
  rw [Array.toList_append, List.all_append, ha, hb]; rfl
theorem joinE : ∀ (ys : List Str), (∀ y ∈ ys, PyData.strOk y = true ∧ y.length = 1) → PyData.strOk (Str.join (Str.ofString "") ys) = true ∧ (Str.join (Str.ofString "") ys).length = ys.length
  | [], _ => ⟨by show PyData.strOk Str.empty = true; decide +kernel, rfl⟩
  | [x], h => h x (by simp)
  | x :: y :: r, h => by
    obtain ⟨h1, h2⟩ := joinE (y :: r) (fun z hz => h z (List.mem_cons_of_mem x hz))
    obtain ⟨h3, h4⟩ := h x (by simp)
    show PyData.strOk (x ++ Str.ofString "" ++ Str.join (Str.ofString "") (y :: r)) = true ∧ (x ++ Str.ofString "" ++ Str.join (Str.ofString "") (y :: r)).length = _
    refine ⟨strOk_append (strOk_append h3 (strOk_of "")) h1, ?_⟩
    rw [Str.length_append, Str.length_append, h4, h2]
    show 1 + 0 + (r.length + 1) = r.length + 1 + 1
    omega
def signs : Str := Str.ofString "abcdefghijklmnopqrstuvwxyzABCDEFGHIJKLMNOPQRSTUVWXYZ0123456789" ++ Str.ofString " .,;:!?'\"()[]{}<>+-*/=&|^~_#$@\\`"
theorem signs_len : signs.cps.toList.length = 94 := by decide +kernel
theorem signs_ok : ∀ c ∈ signs.cps.toList, c < 0x110000 := by decide +kernel
theorem signs_fit : (Str.ofString "abcdefghijklmnopqrstuvwxyzABCDEFGHIJKLMNOPQRSTUVWXYZ0123456789").length + (Str.ofString " .,;:!?'\"()[]{}<>+-*/=&|^~_#$@\\`").length ≤ sizeLine := by decide +kernel
theorem signs_fit2 : signs.length ≤ sizeLine := by decide +kernel
theorem strsOf_map (f : Nat → Str) : ∀ (l : List Nat), strsOf (l.map fun i => D.str (f i)) = some (l.map f)
  | [] => rfl
  | i :: l => by
    show (strsOf (l.map fun i => D.str (f i))).map (f i :: ·) = _
    rw [strsOf_map f l]; rfl
theorem sum_ones : ∀ (ys : List Str), (∀ y ∈ ys, y.length = 1) → (ys.map (·.length)).sum = ys.length
  | [], _ => rfl
  | y :: r, h => by
    rw [List.map_cons, List.sum_cons, h y (by simp), sum_ones r (fun z hz => h z (List.mem_cons_of_mem y hz)), List.length_cons]
    omega
theorem words_ok (cell : Int) (n : Nat) (st : Store) (hn : n ≤ 1000) : ∃ t, PyData.strOk t = true ∧ t.length = n ∧ s_words [.d (.int cell), .d (.int n)] st = .ok (.d (.str t)) st := by
  let f : Nat → Str := fun i => ⟨#[(signs.cps.toList[((cell / ((i : Int) + 1) + 5 * (i : Int)) % 94).toNat]?).getD 0]⟩
  have hf : ∀ y ∈ (List.range n).map f, PyData.strOk y = true ∧ y.length = 1 := by
    intro y hy
    obtain ⟨i, _, rfl⟩ := List.mem_map.mp hy
    refine ⟨?_, rfl⟩
    have h0 := Int.emod_nonneg (cell / ((i : Int) + 1) + 5 * (i : Int)) (show (94 : Int) ≠ 0 by decide)
    have h1 := Int.emod_lt_of_pos (cell / ((i : Int) + 1) + 5 * (i : Int)) (show (0 : Int) < 94 by decide)
    have hlt : ((cell / ((i : Int) + 1) + 5 * (i : Int)) % 94).toNat < signs.cps.toList.length := by rw [signs_len]; omega
    unfold PyData.strOk
    rw [← Array.all_toList]
    show (decide ((signs.cps.toList[((cell / ((i : Int) + 1) + 5 * (i : Int)) % 94).toNat]?).getD 0 < 0x110000) && true) = true
    rw [List.getElem?_eq_getElem hlt]
    have := signs_ok _ (List.getElem_mem hlt)
    simp only [Option.getD_some, Bool.and_true, decide_eq_true_eq]
    exact this
  obtain ⟨g1, g2⟩ := joinE _ hf
  refine ⟨Txt.join (Str.ofString "") ((List.range n).map f), by rw [TL.join_eq]; exact g1, by rw [TL.join_eq, g2]; simp, ?_⟩
  have hm : uptoD n = (List.range n).map fun i : Nat => D.int (i : Int) := rfl
  have hl : lcLoop 3 yesT (binM ixW (varM 2) (binM modW (binM (addW false) (binM fdivW (varM 0) (binM (addW false) (varM 3) (conM (.int 1)))) (binM (mulW false) (conM (.int 5)) (varM 3))) (conM (.int 94)))) (uptoD n) [] [some (.d (.int cell)), some (.d (.int n)), some (.d (.str signs)), none] st
      = .ok ((List.range n).map fun i => D.str (f i)) st := by
    rw [lcLoop_map (fun x => match x with | .int i => .str (f i.toNat) | _ => .non) (uptoD n) (fun x hx => ?_) (by unfold uptoD; rw [List.length_map, List.length_range]; exact small (by omega))]
    · rw [hm, List.map_map]; rfl
    · obtain ⟨i, hi, rfl⟩ := mem_upto hx
      have h0 := Int.emod_nonneg (cell / ((i : Int) + 1) + 5 * (i : Int)) (show (94 : Int) ≠ 0 by decide)
      have h1 := Int.emod_lt_of_pos (cell / ((i : Int) + 1) + 5 * (i : Int)) (show (0 : Int) < 94 by decide)
      have hlt : ((cell / ((i : Int) + 1) + 5 * (i : Int)) % 94).toNat < signs.cps.toList.length := by rw [signs_len]; omega
      have e1 : atI signs.cps.toList ((cell / ((i : Int) + 1) + 5 * (i : Int)) % 94) = some (signs.cps.toList[((cell / ((i : Int) + 1) + 5 * (i : Int)) % 94).toNat]) := by
        have := atI_nat signs.cps.toList ((cell / ((i : Int) + 1) + 5 * (i : Int)) % 94).toNat
        rw [Int.toNat_of_nonneg h0] at this
        rw [this, List.getElem?_eq_getElem hlt]
      simp only [szs, fnM, rawM, seqM, ifM, tvM, truM, binM, unM, appM, consA, nilA, varM, conM, retM, retN, asgM, expM, raiseM, passS, callF, app1, app2, noExc, isExc_d, isExc_c, bindS_ok, bindS_err, bindS_stuck, Res.bind_ok, Res.bind_err, Res.bind_stuck, onBl_bl, andT, orT, notT, andV, orV, notV, tupM, lstM, toDs, toD, asD_d, asD_new, frzW_d, newT, newL, slM, slW, someO, noneO, ixW, addW, subW, mulW, modW, cmpW, negW, lenW, intW, tabW, isNonB, isNonW, isNon_d, List.map_cons, List.map_nil, List.length_cons, List.length_nil, List.replicate, List.append_nil, List.nil_append, List.cons_append, List.getElem?_cons_zero, List.getElem?_cons_succ, List.set_cons_zero, List.set_cons_succ, Nat.reduceAdd, Nat.reduceSub, if_true, if_false, ite_true, ite_false, Bool.not_true, Bool.not_false, Bool.and_true, Bool.and_false, Bool.false_eq_true, reduceIte, fin_same, finE_same, fin_new, atI_0, atI_1, atI_2, eqW_ofs, look_ofs, look_nil, dspC, newDc, inW, Option.isSome_some, Option.isSome_none, itM, forM, items_dl, items_dt, methL, methD, arg0, arg1, arg2, appendW, popW, listW, get_new, set_new, isLst_new, pow109, String.reduceBEq, String.reduceEq, Bool.false_or, Bool.true_or, Bool.or_false, Bool.or_true, fdivW, fdvOk_of (k := (i : Int) + 1) (by omega) (by omega), mulOk_l (i := 5) (j := (i : Int)) (by decide) (by decide), show ((0 : Int) < 94) = True from by simp, signs_fit2, e1]
      simp only [f, Int.toNat_natCast, List.getElem?_eq_getElem hlt, Option.getD_some]
  unfold s_words b_words
  simp only [szs, fnM, rawM, seqM, ifM, tvM, truM, binM, unM, appM, consA, nilA, varM, conM, retM, retN, asgM, expM, raiseM, passS, callF, app1, app2, noExc, isExc_d, isExc_c, bindS_ok, bindS_err, bindS_stuck, Res.bind_ok, Res.bind_err, Res.bind_stuck, onBl_bl, andT, orT, notT, andV, orV, notV, tupM, lstM, toDs, toD, asD_d, asD_new, frzW_d, newT, newL, slM, slW, someO, noneO, ixW, addW, subW, mulW, modW, cmpW, negW, lenW, intW, tabW, isNonB, isNonW, isNon_d, List.map_cons, List.map_nil, List.length_cons, List.length_nil, List.replicate, List.append_nil, List.nil_append, List.cons_append, List.getElem?_cons_zero, List.getElem?_cons_succ, List.set_cons_zero, List.set_cons_succ, Nat.reduceAdd, Nat.reduceSub, if_true, if_false, ite_true, ite_false, Bool.not_true, Bool.not_false, Bool.and_true, Bool.and_false, Bool.false_eq_true, reduceIte, fin_same, finE_same, fin_new, atI_0, atI_1, atI_2, eqW_ofs, look_ofs, look_nil, dspC, newDc, inW, Option.isSome_some, Option.isSome_none, itM, forM, items_dl, items_dt, methL, methD, arg0, arg1, arg2, appendW, popW, listW, get_new, set_new, isLst_new, pow109, String.reduceBEq, String.reduceEq, Bool.false_or, Bool.true_or, Bool.or_false, Bool.or_true, signs_fit, lcM]
  rw [rng_ok _ _ st st n (by simp only [szs, fnM, rawM, seqM, ifM, tvM, truM, binM, unM, appM, consA, nilA, varM, conM, retM, retN, asgM, expM, raiseM, passS, callF, app1, app2, noExc, isExc_d, isExc_c, bindS_ok, bindS_err, bindS_stuck, Res.bind_ok, Res.bind_err, Res.bind_stuck, onBl_bl, andT, orT, notT, andV, orV, notV, tupM, lstM, toDs, toD, asD_d, asD_new, frzW_d, newT, newL, slM, slW, someO, noneO, ixW, addW, subW, mulW, modW, cmpW, negW, lenW, intW, tabW, isNonB, isNonW, isNon_d, List.map_cons, List.map_nil, List.length_cons, List.length_nil, List.replicate, List.append_nil, List.nil_append, List.cons_append, List.getElem?_cons_zero, List.getElem?_cons_succ, List.set_cons_zero, List.set_cons_succ, Nat.reduceAdd, Nat.reduceSub, if_true, if_false, ite_true, ite_false, Bool.not_true, Bool.not_false, Bool.and_true, Bool.and_false, Bool.false_eq_true, reduceIte, fin_same, finE_same, fin_new, atI_0, atI_1, atI_2, eqW_ofs, look_ofs, look_nil, dspC, newDc, inW, Option.isSome_some, Option.isSome_none, itM, forM, items_dl, items_dt, methL, methD, arg0, arg1, arg2, appendW, popW, listW, get_new, set_new, isLst_new, pow109, String.reduceBEq, String.reduceEq, Bool.false_or, Bool.true_or, Bool.or_false, Bool.or_true]) (by omega)]
  simp only [Res.bind_ok]
  rw [show (Str.ofString "abcdefghijklmnopqrstuvwxyzABCDEFGHIJKLMNOPQRSTUVWXYZ0123456789" ++ Str.ofString " .,;:!?'\"()[]{}<>+-*/=&|^~_#$@\\`") = signs from rfl, hl]
  have hz : (List.map (fun i => D.str (f i)) (List.range n)).length ≤ sizeLine := by rw [List.length_map, List.length_range]; exact small (by omega)
  have hj : (((List.range n).map f).map (·.length)).sum + ((List.range n).map f).length * (Str.ofString "").length ≤ 16777216 := by
    rw [sum_ones _ (fun y hy => (hf y hy).2), List.length_map, List.length_range]
    show n + n * 0 ≤ _
    omega
  simp only [szs, fnM, rawM, seqM, ifM, tvM, truM, binM, unM, appM, consA, nilA, varM, conM, retM, retN, asgM, expM, raiseM, passS, callF, app1, app2, noExc, isExc_d, isExc_c, bindS_ok, bindS_err, bindS_stuck, Res.bind_ok, Res.bind_err, Res.bind_stuck, onBl_bl, andT, orT, notT, andV, orV, notV, tupM, lstM, toDs, toD, asD_d, asD_new, frzW_d, newT, newL, slM, slW, someO, noneO, ixW, addW, subW, mulW, modW, cmpW, negW, lenW, intW, tabW, isNonB, isNonW, isNon_d, List.map_cons, List.map_nil, List.length_cons, List.length_nil, List.replicate, List.append_nil, List.nil_append, List.cons_append, List.getElem?_cons_zero, List.getElem?_cons_succ, List.set_cons_zero, List.set_cons_succ, Nat.reduceAdd, Nat.reduceSub, if_true, if_false, ite_true, ite_false, Bool.not_true, Bool.not_false, Bool.and_true, Bool.and_false, Bool.false_eq_true, reduceIte, fin_same, finE_same, fin_new, atI_0, atI_1, atI_2, eqW_ofs, look_ofs, look_nil, dspC, newDc, inW, Option.isSome_some, Option.isSome_none, itM, forM, items_dl, items_dt, methL, methD, arg0, arg1, arg2, appendW, popW, listW, get_new, set_new, isLst_new, pow109, String.reduceBEq, String.reduceEq, Bool.false_or, Bool.true_or, Bool.or_false, Bool.or_true, hz, joinS, strsOf_map, hj]
theorem get_set {st : Store} {k : Nat} {c : Cell} (h : k < st.length) : (st.set k c)[k]? = some c := by simp [h]
theorem set_set' (st : Store) (k : Nat) (c c' : Cell) : (st.set k c).set k c' = st.set k c' := by simp
/-- a draw, drawn -/
theorem draw2 (ns : List Int) (k : Nat) (t m : Int) (st : Store) (h : k < st.length) (h0 : 0 ≤ t) (h1 : t ≤ 1000000) (hm : 0 < m) :
    ∃ v, 0 ≤ v ∧ v < m ∧ s_draw [.d (.scr ns), .c k, .d (.int m)] (st.set k (tc t)) = .ok (.d (.int v)) (st.set k (tc (t + 1))) := by
  obtain ⟨v, a, b, e⟩ := draw_ok ns k t m (st.set k (tc t)) (get_set h) h0 h1 hm
  exact ⟨v, a, b, by rw [e, set_set']⟩
theorem set_self {st : Store} {k : Nat} {c : Cell} (h : st[k]? = some c) : st.set k c = st := by
  obtain ⟨hk, e⟩ := List.getElem?_eq_some_iff.mp h
  subst e
  exact List.set_getElem_self hk
theorem value_ok (ns : List Int) (k : Nat) (t : Int) (kd : Kd) (st : Store) (hk : k < st.length) (h0 : 0 ≤ t) (h1 : t ≤ 999000) :
    ∃ v : Val, v.ok ∧ v.kd = kd ∧ s_value [.d (.scr ns), .c k, .d kd.enc] (st.set k (tc t)) = .ok (.d v.enc) (st.set k (tc (t + 2))) := by
  obtain ⟨a, a0, a1, ea⟩ := draw2 ns k t 1000000000 st hk h0 (by omega) (by decide)
  obtain ⟨b, b0, b1, eb⟩ := draw2 ns k (t + 1) 6 st hk (by omega) (by omega) (by decide)
  have et : t + 1 + 1 = t + 2 := by omega
  rw [et] at eb
  have p3 : ((0 : Int) < 3) = True := by simp
  have p4 : ((0 : Int) < 4) = True := by simp
  have p8 : ((0 : Int) < 8) = True := by simp
  have fs : ∀ x : D, fin (st.set k (tc t)) (.d x) (st.set k (tc (t + 2))) = .ok (.d x) (st.set k (tc (t + 2))) := fun x => by
    rw [← set_set' st k (tc t) (tc (t + 2))]; exact fin_set _ _ _ _
  cases kd with
  | text =>
    by_cases hb : b = 0
    · have m0 := Int.emod_nonneg a (show (3 : Int) ≠ 0 by decide)
      have m1 := Int.emod_lt_of_pos a (show (0 : Int) < 3 by decide)
      obtain ⟨s, s1, s2, e⟩ := words_ok a (58 + a % 3).toNat (st.set k (tc (t + 2))) (by omega)
      rw [Int.toNat_of_nonneg (by omega)] at e
      refine ⟨.s s, ⟨s1, by omega⟩, rfl, ?_⟩
      unfold s_value b_value
      subst hb
      simp only [szs, fnM, rawM, seqM, ifM, tvM, truM, binM, unM, appM, consA, nilA, varM, conM, retM, retN, asgM, expM, raiseM, passS, callF, app1, app2, noExc, isExc_d, isExc_c, bindS_ok, bindS_err, bindS_stuck, Res.bind_ok, Res.bind_err, Res.bind_stuck, onBl_bl, andT, orT, notT, andV, orV, notV, tupM, lstM, toDs, toD, asD_d, asD_new, frzW_d, newT, newL, slM, slW, someO, noneO, ixW, addW, subW, mulW, modW, cmpW, negW, lenW, intW, tabW, isNonB, isNonW, isNon_d, List.map_cons, List.map_nil, List.length_cons, List.length_nil, List.replicate, List.append_nil, List.nil_append, List.cons_append, List.getElem?_cons_zero, List.getElem?_cons_succ, List.set_cons_zero, List.set_cons_succ, Nat.reduceAdd, Nat.reduceSub, if_true, if_false, ite_true, ite_false, Bool.not_true, Bool.not_false, Bool.and_true, Bool.and_false, Bool.false_eq_true, reduceIte, fin_same, finE_same, fin_new, atI_0, atI_1, atI_2, eqW_ofs, look_ofs, look_nil, dspC, newDc, inW, Option.isSome_some, Option.isSome_none, itM, forM, items_dl, items_dt, methL, methD, arg0, arg1, arg2, appendW, popW, listW, get_new, set_new, isLst_new, pow109, String.reduceBEq, String.reduceEq, Bool.false_or, Bool.true_or, Bool.or_false, Bool.or_true, Kd.enc, Kd.s, ea, eb, eqW_int, beq_self_eq_true, p3, e, Val.enc, fs]
    · have m0 := Int.emod_nonneg (a / 94) (show (8 : Int) ≠ 0 by decide)
      have m1 := Int.emod_lt_of_pos (a / 94) (show (0 : Int) < 8 by decide)
      obtain ⟨s, s1, s2, e⟩ := words_ok a (a / 94 % 8).toNat (st.set k (tc (t + 2))) (by omega)
      rw [Int.toNat_of_nonneg (by omega)] at e
      refine ⟨.s s, ⟨s1, by omega⟩, rfl, ?_⟩
      have hb' : (b == 0) = false := by simpa using hb
      unfold s_value b_value
      simp only [szs, fnM, rawM, seqM, ifM, tvM, truM, binM, unM, appM, consA, nilA, varM, conM, retM, retN, asgM, expM, raiseM, passS, callF, app1, app2, noExc, isExc_d, isExc_c, bindS_ok, bindS_err, bindS_stuck, Res.bind_ok, Res.bind_err, Res.bind_stuck, onBl_bl, andT, orT, notT, andV, orV, notV, tupM, lstM, toDs, toD, asD_d, asD_new, frzW_d, newT, newL, slM, slW, someO, noneO, ixW, addW, subW, mulW, modW, cmpW, negW, lenW, intW, tabW, isNonB, isNonW, isNon_d, List.map_cons, List.map_nil, List.length_cons, List.length_nil, List.replicate, List.append_nil, List.nil_append, List.cons_append, List.getElem?_cons_zero, List.getElem?_cons_succ, List.set_cons_zero, List.set_cons_succ, Nat.reduceAdd, Nat.reduceSub, if_true, if_false, ite_true, ite_false, Bool.not_true, Bool.not_false, Bool.and_true, Bool.and_false, Bool.false_eq_true, reduceIte, fin_same, finE_same, fin_new, atI_0, atI_1, atI_2, eqW_ofs, look_ofs, look_nil, dspC, newDc, inW, Option.isSome_some, Option.isSome_none, itM, forM, items_dl, items_dt, methL, methD, arg0, arg1, arg2, appendW, popW, listW, get_new, set_new, isLst_new, pow109, String.reduceBEq, String.reduceEq, Bool.false_or, Bool.true_or, Bool.or_false, Bool.or_true, Kd.enc, Kd.s, ea, eb, eqW_int, hb', p8, fdivW, fdvOk_of (k := 94) (by decide) (by decide), e, Val.enc, fs]
  | num =>
    by_cases hb : b = 0
    · have m0 := Int.emod_nonneg a (show (3 : Int) ≠ 0 by decide)
      have m1 := Int.emod_lt_of_pos a (show (0 : Int) < 3 by decide)
      refine ⟨.i (999999999 - a % 3), ⟨by omega, by omega⟩, rfl, ?_⟩
      unfold s_value b_value
      subst hb
      simp only [szs, fnM, rawM, seqM, ifM, tvM, truM, binM, unM, appM, consA, nilA, varM, conM, retM, retN, asgM, expM, raiseM, passS, callF, app1, app2, noExc, isExc_d, isExc_c, bindS_ok, bindS_err, bindS_stuck, Res.bind_ok, Res.bind_err, Res.bind_stuck, onBl_bl, andT, orT, notT, andV, orV, notV, tupM, lstM, toDs, toD, asD_d, asD_new, frzW_d, newT, newL, slM, slW, someO, noneO, ixW, addW, subW, mulW, modW, cmpW, negW, lenW, intW, tabW, isNonB, isNonW, isNon_d, List.map_cons, List.map_nil, List.length_cons, List.length_nil, List.replicate, List.append_nil, List.nil_append, List.cons_append, List.getElem?_cons_zero, List.getElem?_cons_succ, List.set_cons_zero, List.set_cons_succ, Nat.reduceAdd, Nat.reduceSub, if_true, if_false, ite_true, ite_false, Bool.not_true, Bool.not_false, Bool.and_true, Bool.and_false, Bool.false_eq_true, reduceIte, fin_same, finE_same, fin_new, atI_0, atI_1, atI_2, eqW_ofs, look_ofs, look_nil, dspC, newDc, inW, Option.isSome_some, Option.isSome_none, itM, forM, items_dl, items_dt, methL, methD, arg0, arg1, arg2, appendW, popW, listW, get_new, set_new, isLst_new, pow109, String.reduceBEq, String.reduceEq, Bool.false_or, Bool.true_or, Bool.or_false, Bool.or_true, Kd.enc, Kd.s, ea, eb, eqW_int, beq_self_eq_true, p3, Val.enc, fs]
    · have hb' : (b == 0) = false := by simpa using hb
      by_cases h3 : b < 3
      · have m0 := Int.emod_nonneg a (show (4 : Int) ≠ 0 by decide)
        have m1 := Int.emod_lt_of_pos a (show (0 : Int) < 4 by decide)
        refine ⟨.i (a % 4), ⟨by omega, by omega⟩, rfl, ?_⟩
        unfold s_value b_value
        simp only [szs, fnM, rawM, seqM, ifM, tvM, truM, binM, unM, appM, consA, nilA, varM, conM, retM, retN, asgM, expM, raiseM, passS, callF, app1, app2, noExc, isExc_d, isExc_c, bindS_ok, bindS_err, bindS_stuck, Res.bind_ok, Res.bind_err, Res.bind_stuck, onBl_bl, andT, orT, notT, andV, orV, notV, tupM, lstM, toDs, toD, asD_d, asD_new, frzW_d, newT, newL, slM, slW, someO, noneO, ixW, addW, subW, mulW, modW, cmpW, negW, lenW, intW, tabW, isNonB, isNonW, isNon_d, List.map_cons, List.map_nil, List.length_cons, List.length_nil, List.replicate, List.append_nil, List.nil_append, List.cons_append, List.getElem?_cons_zero, List.getElem?_cons_succ, List.set_cons_zero, List.set_cons_succ, Nat.reduceAdd, Nat.reduceSub, if_true, if_false, ite_true, ite_false, Bool.not_true, Bool.not_false, Bool.and_true, Bool.and_false, Bool.false_eq_true, reduceIte, fin_same, finE_same, fin_new, atI_0, atI_1, atI_2, eqW_ofs, look_ofs, look_nil, dspC, newDc, inW, Option.isSome_some, Option.isSome_none, itM, forM, items_dl, items_dt, methL, methD, arg0, arg1, arg2, appendW, popW, listW, get_new, set_new, isLst_new, pow109, String.reduceBEq, String.reduceEq, Bool.false_or, Bool.true_or, Bool.or_false, Bool.or_true, Kd.enc, Kd.s, ea, eb, eqW_int, hb', p4, ltW, h3, decide_true, Val.enc, fs]
      · have h3' : decide (b < 3) = false := decide_eq_false h3
        refine ⟨.i a, ⟨by omega, by omega⟩, rfl, ?_⟩
        unfold s_value b_value
        simp only [szs, fnM, rawM, seqM, ifM, tvM, truM, binM, unM, appM, consA, nilA, varM, conM, retM, retN, asgM, expM, raiseM, passS, callF, app1, app2, noExc, isExc_d, isExc_c, bindS_ok, bindS_err, bindS_stuck, Res.bind_ok, Res.bind_err, Res.bind_stuck, onBl_bl, andT, orT, notT, andV, orV, notV, tupM, lstM, toDs, toD, asD_d, asD_new, frzW_d, newT, newL, slM, slW, someO, noneO, ixW, addW, subW, mulW, modW, cmpW, negW, lenW, intW, tabW, isNonB, isNonW, isNon_d, List.map_cons, List.map_nil, List.length_cons, List.length_nil, List.replicate, List.append_nil, List.nil_append, List.cons_append, List.getElem?_cons_zero, List.getElem?_cons_succ, List.set_cons_zero, List.set_cons_succ, Nat.reduceAdd, Nat.reduceSub, if_true, if_false, ite_true, ite_false, Bool.not_true, Bool.not_false, Bool.and_true, Bool.and_false, Bool.false_eq_true, reduceIte, fin_same, finE_same, fin_new, atI_0, atI_1, atI_2, eqW_ofs, look_ofs, look_nil, dspC, newDc, inW, Option.isSome_some, Option.isSome_none, itM, forM, items_dl, items_dt, methL, methD, arg0, arg1, arg2, appendW, popW, listW, get_new, set_new, isLst_new, pow109, String.reduceBEq, String.reduceEq, Bool.false_or, Bool.true_or, Bool.or_false, Bool.or_true, Kd.enc, Kd.s, ea, eb, eqW_int, hb', ltW, h3', Val.enc, fs]
end Py

namespace Py
open PySem L2
theorem atI_in {α β : Type} (f : α → β) (l : List α) (w : Int) (h0 : 0 ≤ w) (h1 : w < l.length) : ∃ s ∈ l, atI (l.map f) w = some (f s) := by
  have hlt : w.toNat < l.length := by omega
  refine ⟨l[w.toNat], List.getElem_mem hlt, ?_⟩
  have := atI_nat (l.map f) w.toNat
  rw [Int.toNat_of_nonneg h0] at this
  rw [this, List.getElem?_map, List.getElem?_eq_getElem hlt]; rfl
theorem seq_nx {a b : MS} {env e : Env} {st s : Store} (h : a env st = .nx e s) : seqM a b env st = b e s := by
  unfold seqM; rw [h]
theorem fnM_ret {a n : Nat} {body : MS} {ws : List W} {st st' : Store} {w : W} (hl : ws.length = a) (h : body (ws.map some ++ List.replicate (n - a) none) st = .ret w st') : fnM a n body ws st = fin st w st' := by
  unfold fnM; rw [if_pos hl, h]
section
variable {st : Store} {k : Nat} (hk : k < st.length)
include hk
theorem pg (c x : Cell) : ((st ++ [c]).set k x)[st.length]? = some c := by
  rw [List.getElem?_set_ne (by omega)]; simp
theorem ps (c c' x : Cell) : ((st ++ [c]).set k x).set st.length c' = (st ++ [c']).set k x := by
  rw [List.set_comm _ _ (by omega)]; simp
theorem pa (xs : List D) (x : Cell) : asD ((st ++ [Cell.lst xs]).set k x) (.c st.length) = some (.lst xs) := by
  unfold asD; simp only; rw [pg hk]
theorem pl (xs : List D) (x : Cell) : isLst (.c st.length) ((st ++ [Cell.lst xs]).set k x) = true := by
  unfold isLst; rw [pa hk]
theorem pd (ns : List Int) (c : Cell) (t m : Int) (h0 : 0 ≤ t) (h1 : t ≤ 1000000) (hm : 0 < m) :
    ∃ v, 0 ≤ v ∧ v < m ∧ s_draw [.d (.scr ns), .c k, .d (.int m)] ((st ++ [c]).set k (tc t)) = .ok (.d (.int v)) ((st ++ [c]).set k (tc (t + 1))) :=
  draw2 ns k t m (st ++ [c]) (by rw [List.length_append]; omega) h0 h1 hm
end
theorem kdAt (w : Int) (h0 : 0 ≤ w) (h1 : w < 2) : ∃ kd : Kd, atI [D.str (Str.ofString "num"), D.str (Str.ofString "text")] w = some kd.enc := by
  obtain ⟨s, _, es⟩ := atI_in Kd.enc [.num, .text] w h0 h1
  exact ⟨s, es⟩
theorem lt_line {n : Nat} (h : n ≤ 999999) : n < sizeLine := Nat.lt_of_le_of_lt h (by decide)
end Py

namespace Py
open PySem L2
section
variable {st : Store} {k : Nat} (hk : k < st.length) (ns : List Int)
include hk
end
end Py

namespace Py
open PySem L2
section
variable {st : Store} {k : Nat} (hk : k < st.length) (ns : List Int)
include hk
end
end Py

namespace Py
open PySem L2
theorem needS_eq (ks : List Kd) (ws : List (Option Kd)) : need ks ws = none ∨ need ks ws = some .empty ∨ need ks ws = some .kind := by
  unfold need
  split
  · exact .inr (.inl rfl)
  · split
    · exact .inr (.inr rfl)
    · exact .inl rfl
theorem strOk_cut {z : Str} (lo hi : Option Int) (h : PyData.strOk z = true) : PyData.strOk (cutS z lo hi) = true := by
  unfold PyData.strOk at h ⊢
  rw [← Array.all_toList, List.all_eq_true] at h ⊢
  intro c hc
  exact h c (List.mem_of_mem_drop (List.mem_of_mem_take hc))
theorem doneV_len (r : Row) (vs : List Val) : (doneV r vs).length ≤ vs.length + 1 := by
  cases r with
  | num => simp [doneV]
  | text => simp [doneV]
  | copy => simp [doneV]
  | op o =>
    have e : ∃ l, vs.reverse = l := ⟨_, rfl⟩
    obtain ⟨l, e⟩ := e
    have hl : vs.length = l.length := by rw [← e, List.length_reverse]
    unfold doneV
    rw [e]
    cases l with
    | nil => cases o <;> simp
    | cons b l =>
      simp only [List.length_cons] at hl
      cases l with
      | nil =>
        simp only [List.length_nil] at hl
        cases o <;> cases b <;> simp <;> omega
      | cons a l =>
        simp only [List.length_cons] at hl
        cases o <;> cases b <;> simp <;> omega
end Py

namespace Py
open PySem L2
/-! ### the kinds behind a plain row -/
def Op.puts : Op → List Kd
  | .add => [.num] | .mul => [.num] | .less => [.num] | .join => [.text] | .long => [.num] | .shw => [.text] | .swap => [] | .drop => []
def plainK (r : Row) (ks : List Kd) : List Kd := match r with
  | .num _ => ks ++ [.num]
  | .text _ => ks ++ [.text]
  | .copy k => ks ++ [ks.reverse.getD k .num]
  | .op .swap => (match ks.reverse with | b :: a :: us => us.reverse ++ [b, a] | _ => ks)
  | .op o => ks.take (ks.length - o.wants.length) ++ o.puts
abbrev encK (ks : List Kd) : List D := ks.map Kd.enc
theorem ktop2 {ks : List Kd} {w1 w2 : Option Kd} (h : need ks [w1, w2] = none) : ∃ us a b, ks = us ++ [a, b] ∧ bad (a, w1) = false ∧ bad (b, w2) = false := by
  obtain ⟨h1, h2⟩ := need_none h
  simp only [List.length_cons, List.length_nil] at h1 h2
  obtain ⟨us, ys, rfl, hy⟩ : ∃ us ys, ks = us ++ ys ∧ ys.length = 2 := ⟨ks.take (ks.length - 2), ks.drop (ks.length - 2), (List.take_append_drop _ _).symm, by rw [List.length_drop]; omega⟩
  match ys, hy with
  | [a, b], _ =>
    refine ⟨us, a, b, rfl, ?_⟩
    rw [show (us ++ [a, b]).length - (0 + 1 + 1) = us.length from by simp, List.drop_left] at h2
    simp only [List.zip_cons_cons, List.any_cons, List.any_nil, Bool.or_eq_false_iff] at h2
    exact ⟨h2.1, h2.2.1⟩
theorem ktop1 {ks : List Kd} {w1 : Option Kd} (h : need ks [w1] = none) : ∃ us a, ks = us ++ [a] ∧ bad (a, w1) = false := by
  obtain ⟨h1, h2⟩ := need_none h
  simp only [List.length_cons, List.length_nil] at h1 h2
  obtain ⟨us, ys, rfl, hy⟩ : ∃ us ys, ks = us ++ ys ∧ ys.length = 1 := ⟨ks.take (ks.length - 1), ks.drop (ks.length - 1), (List.take_append_drop _ _).symm, by rw [List.length_drop]; omega⟩
  match ys, hy with
  | [a], _ =>
    refine ⟨us, a, rfl, ?_⟩
    rw [show (us ++ [a]).length - (0 + 1) = us.length from by simp, List.drop_left] at h2
    simp only [List.zip_cons_cons, List.any_cons, List.any_nil, Bool.or_eq_false_iff] at h2
    exact h2.1
theorem kat21 (us : List Kd) (a b : Kd) : atI (encK (us ++ [a, b])) (-1) = some b.enc := by
  have := atI_neg (encK (us ++ [a, b])) 1 (by decide) (by simp)
  rw [show (-((1 : Nat) : Int)) = -1 from rfl] at this
  rw [this]; simp
theorem kat22 (us : List Kd) (a b : Kd) : atI (encK (us ++ [a, b])) (-2) = some a.enc := by
  have := atI_neg (encK (us ++ [a, b])) 2 (by decide) (by simp)
  rw [show (-((2 : Nat) : Int)) = -2 from rfl] at this
  rw [this]; simp
theorem lk_num : look (Str.ofString "num") T_PUTS = some (.tup (encK [.num])) := by simp [T_PUTS, look_ofs, Kd.enc, Kd.s]
theorem lk_text : look (Str.ofString "text") T_PUTS = some (.tup (encK [.text])) := by simp [T_PUTS, look_ofs, Kd.enc, Kd.s]
theorem lk_add : look (Str.ofString "add") T_PUTS = some (.tup (encK [.num])) := by simp [T_PUTS, look_ofs, Kd.enc, Kd.s]
theorem lk_mul : look (Str.ofString "mul") T_PUTS = some (.tup (encK [.num])) := by simp [T_PUTS, look_ofs, Kd.enc, Kd.s]
theorem lk_less : look (Str.ofString "less") T_PUTS = some (.tup (encK [.num])) := by simp [T_PUTS, look_ofs, Kd.enc, Kd.s]
theorem lk_join : look (Str.ofString "join") T_PUTS = some (.tup (encK [.text])) := by simp [T_PUTS, look_ofs, Kd.enc, Kd.s]
theorem lk_long : look (Str.ofString "long") T_PUTS = some (.tup (encK [.num])) := by simp [T_PUTS, look_ofs, Kd.enc, Kd.s]
theorem lk_show : look (Str.ofString "show") T_PUTS = some (.tup (encK [.text])) := by simp [T_PUTS, look_ofs, Kd.enc, Kd.s]
theorem p_plainly_ok (ks : List Kd) (r : Row) (st : Store) (hr : r.ok) (hl : ks.length ≤ 400000) :
    s_p_plainly [.d (.tup (encK ks)), .d r.enc] st = match need ks r.wants with | some e => .err e st | none => .ok (.d (.tup (encK (plainK r ks)))) st := by
  unfold s_p_plainly b_p_plainly
  have e4 := need_ok ks r.wants st (by omega)
  have s0 : ∀ n, (List.take n (encK ks)).length ≤ sizeLine := fun n => small (by rw [List.length_take, List.length_map]; omega)
  simp only [szs, fnM, rawM, seqM, ifM, tvM, truM, binM, unM, appM, consA, nilA, varM, conM, retM, retN, asgM, expM, raiseM, passS, callF, app1, app2, noExc, isExc_d, isExc_c, bindS_ok, bindS_err, bindS_stuck, Res.bind_ok, Res.bind_err, Res.bind_stuck, onBl_bl, andT, orT, notT, andV, orV, notV, tupM, lstM, toDs, toD, asD_d, asD_new, frzW_d, newT, newL, slM, slW, someO, noneO, ixW, addW, subW, mulW, modW, cmpW, negW, lenW, intW, tabW, isNonB, isNonW, isNon_d, List.map_cons, List.map_nil, List.length_cons, List.length_nil, List.replicate, List.append_nil, List.nil_append, List.cons_append, List.getElem?_cons_zero, List.getElem?_cons_succ, List.set_cons_zero, List.set_cons_succ, Nat.reduceAdd, Nat.reduceSub, if_true, if_false, ite_true, ite_false, Bool.not_true, Bool.not_false, Bool.and_true, Bool.and_false, Bool.false_eq_true, reduceIte, fin_same, finE_same, fin_new, atI_0, atI_1, atI_2, eqW_ofs, look_ofs, look_nil, dspC, newDc, inW, Option.isSome_some, Option.isSome_none, itM, forM, items_dl, items_dt, methL, methD, arg0, arg1, arg2, appendW, popW, listW, get_new, set_new, isLst_new, pow109, String.reduceBEq, String.reduceEq, Bool.false_or, Bool.true_or, Bool.or_false, Bool.or_true, wants_ok r hr, e4]
  cases q : need ks r.wants with
  | some e => simp only [bindS_err, finE_same, Res.bind_err]
  | none =>
    have hwl := (need_none q).1
    have e5 : ((encK ks).length : Int) - ((r.wants.map encO).length : Int) = ((ks.length - r.wants.length : Nat) : Int) := by rw [List.length_map, List.length_map]; omega
    have s1 : ∀ x : D, (encK ks ++ [x]).length ≤ sizeLine := fun x => small (by simp; omega)
    have s2 : ∀ n (x : List D), x.length ≤ 2 → (List.take n (encK ks) ++ x).length ≤ sizeLine := fun n x hx => small (by rw [List.length_append, List.length_take, List.length_map]; omega)
    simp only [bindS_ok, Res.bind_ok]
    have sA : (encK ks).length ≤ sizeLine := small (by rw [List.length_map]; omega)
    have tk : List.take ks.length (encK ks) = encK ks := List.take_of_length_le (by rw [List.length_map]; exact Nat.le_refl _)
    cases r with
    | num v =>
      simp only [Row.enc]
      simp only [szs, fnM, rawM, seqM, ifM, tvM, truM, binM, unM, appM, consA, nilA, varM, conM, retM, retN, asgM, expM, raiseM, passS, callF, app1, app2, noExc, isExc_d, isExc_c, bindS_ok, bindS_err, bindS_stuck, Res.bind_ok, Res.bind_err, Res.bind_stuck, onBl_bl, andT, orT, notT, andV, orV, notV, tupM, lstM, toDs, toD, asD_d, asD_new, frzW_d, newT, newL, slM, slW, someO, noneO, ixW, addW, subW, mulW, modW, cmpW, negW, lenW, intW, tabW, isNonB, isNonW, isNon_d, List.map_cons, List.map_nil, List.length_cons, List.length_nil, List.replicate, List.append_nil, List.nil_append, List.cons_append, List.getElem?_cons_zero, List.getElem?_cons_succ, List.set_cons_zero, List.set_cons_succ, Nat.reduceAdd, Nat.reduceSub, if_true, if_false, ite_true, ite_false, Bool.not_true, Bool.not_false, Bool.and_true, Bool.and_false, Bool.false_eq_true, reduceIte, fin_same, finE_same, fin_new, atI_0, atI_1, atI_2, eqW_ofs, look_ofs, look_nil, dspC, newDc, inW, Option.isSome_some, Option.isSome_none, itM, forM, items_dl, items_dt, methL, methD, arg0, arg1, arg2, appendW, popW, listW, get_new, set_new, isLst_new, pow109, String.reduceBEq, String.reduceEq, Bool.false_or, Bool.true_or, Bool.or_false, Bool.or_true, e5, cut_to, sA, lk_num, show ks.length - (Row.num v).wants.length = ks.length from rfl, tk, s1]
      simp [plainK, bindS, fin_same]
    | text v =>
      simp only [Row.enc]
      simp only [szs, fnM, rawM, seqM, ifM, tvM, truM, binM, unM, appM, consA, nilA, varM, conM, retM, retN, asgM, expM, raiseM, passS, callF, app1, app2, noExc, isExc_d, isExc_c, bindS_ok, bindS_err, bindS_stuck, Res.bind_ok, Res.bind_err, Res.bind_stuck, onBl_bl, andT, orT, notT, andV, orV, notV, tupM, lstM, toDs, toD, asD_d, asD_new, frzW_d, newT, newL, slM, slW, someO, noneO, ixW, addW, subW, mulW, modW, cmpW, negW, lenW, intW, tabW, isNonB, isNonW, isNon_d, List.map_cons, List.map_nil, List.length_cons, List.length_nil, List.replicate, List.append_nil, List.nil_append, List.cons_append, List.getElem?_cons_zero, List.getElem?_cons_succ, List.set_cons_zero, List.set_cons_succ, Nat.reduceAdd, Nat.reduceSub, if_true, if_false, ite_true, ite_false, Bool.not_true, Bool.not_false, Bool.and_true, Bool.and_false, Bool.false_eq_true, reduceIte, fin_same, finE_same, fin_new, atI_0, atI_1, atI_2, eqW_ofs, look_ofs, look_nil, dspC, newDc, inW, Option.isSome_some, Option.isSome_none, itM, forM, items_dl, items_dt, methL, methD, arg0, arg1, arg2, appendW, popW, listW, get_new, set_new, isLst_new, pow109, String.reduceBEq, String.reduceEq, Bool.false_or, Bool.true_or, Bool.or_false, Bool.or_true, e5, cut_to, sA, lk_text, show ks.length - (Row.text v).wants.length = ks.length from rfl, tk, s1]
      simp [plainK, bindS, fin_same]
    | copy k =>
      have hk : k + 1 ≤ ks.length := by simpa [Row.wants] using hwl
      have e7 : ((encK ks).length : Int) - 1 - (k : Int) = ((ks.length - 1 - k : Nat) : Int) := by rw [List.length_map]; omega
      have e8 : (encK ks)[ks.length - 1 - k]? = some (ks.reverse.getD k .num).enc := by
        rw [List.getElem?_map, List.getD_eq_getElem?_getD, List.getElem?_reverse (by omega)]
        have : ks.length - 1 - k < ks.length := by omega
        rw [List.getElem?_eq_getElem this]; rfl
      simp only [Row.enc]
      simp only [szs, fnM, rawM, seqM, ifM, tvM, truM, binM, unM, appM, consA, nilA, varM, conM, retM, retN, asgM, expM, raiseM, passS, callF, app1, app2, noExc, isExc_d, isExc_c, bindS_ok, bindS_err, bindS_stuck, Res.bind_ok, Res.bind_err, Res.bind_stuck, onBl_bl, andT, orT, notT, andV, orV, notV, tupM, lstM, toDs, toD, asD_d, asD_new, frzW_d, newT, newL, slM, slW, someO, noneO, ixW, addW, subW, mulW, modW, cmpW, negW, lenW, intW, tabW, isNonB, isNonW, isNon_d, List.map_cons, List.map_nil, List.length_cons, List.length_nil, List.replicate, List.append_nil, List.nil_append, List.cons_append, List.getElem?_cons_zero, List.getElem?_cons_succ, List.set_cons_zero, List.set_cons_succ, Nat.reduceAdd, Nat.reduceSub, if_true, if_false, ite_true, ite_false, Bool.not_true, Bool.not_false, Bool.and_true, Bool.and_false, Bool.false_eq_true, reduceIte, fin_same, finE_same, fin_new, atI_0, atI_1, atI_2, eqW_ofs, look_ofs, look_nil, dspC, newDc, inW, Option.isSome_some, Option.isSome_none, itM, forM, items_dl, items_dt, methL, methD, arg0, arg1, arg2, appendW, popW, listW, get_new, set_new, isLst_new, pow109, String.reduceBEq, String.reduceEq, Bool.false_or, Bool.true_or, Bool.or_false, Bool.or_true, e7, atI_nat, e8, s1]
      simp [plainK]
    | op o =>
      cases o with
      | swap =>
        obtain ⟨us, a, b, rfl, _, _⟩ := ktop2 q
        have e9 : List.take ((us ++ [a, b]).length - (Row.op Op.swap).wants.length) (encK (us ++ [a, b])) = encK us := by simp [Row.wants, Op.wants]
        have e6 : (encK us ++ [b.enc, a.enc]).length ≤ sizeLine := small (by simp at hl ⊢; omega)
        have e10 : (encK us).length ≤ sizeLine := small (by simp at hl ⊢; omega)
        simp only [Row.enc, Op.s]
        simp only [szs, fnM, rawM, seqM, ifM, tvM, truM, binM, unM, appM, consA, nilA, varM, conM, retM, retN, asgM, expM, raiseM, passS, callF, app1, app2, noExc, isExc_d, isExc_c, bindS_ok, bindS_err, bindS_stuck, Res.bind_ok, Res.bind_err, Res.bind_stuck, onBl_bl, andT, orT, notT, andV, orV, notV, tupM, lstM, toDs, toD, asD_d, asD_new, frzW_d, newT, newL, slM, slW, someO, noneO, ixW, addW, subW, mulW, modW, cmpW, negW, lenW, intW, tabW, isNonB, isNonW, isNon_d, List.map_cons, List.map_nil, List.length_cons, List.length_nil, List.replicate, List.append_nil, List.nil_append, List.cons_append, List.getElem?_cons_zero, List.getElem?_cons_succ, List.set_cons_zero, List.set_cons_succ, Nat.reduceAdd, Nat.reduceSub, if_true, if_false, ite_true, ite_false, Bool.not_true, Bool.not_false, Bool.and_true, Bool.and_false, Bool.false_eq_true, reduceIte, fin_same, finE_same, fin_new, atI_0, atI_1, atI_2, eqW_ofs, look_ofs, look_nil, dspC, newDc, inW, Option.isSome_some, Option.isSome_none, itM, forM, items_dl, items_dt, methL, methD, arg0, arg1, arg2, appendW, popW, listW, get_new, set_new, isLst_new, pow109, String.reduceBEq, String.reduceEq, Bool.false_or, Bool.true_or, Bool.or_false, Bool.or_true, e5, cut_to, e9, e10, Int.reduceNeg, kat21, kat22, e6]
        simp [plainK]
      | drop =>
        simp only [Row.enc, Op.s]
        simp only [szs, fnM, rawM, seqM, ifM, tvM, truM, binM, unM, appM, consA, nilA, varM, conM, retM, retN, asgM, expM, raiseM, passS, callF, app1, app2, noExc, isExc_d, isExc_c, bindS_ok, bindS_err, bindS_stuck, Res.bind_ok, Res.bind_err, Res.bind_stuck, onBl_bl, andT, orT, notT, andV, orV, notV, tupM, lstM, toDs, toD, asD_d, asD_new, frzW_d, newT, newL, slM, slW, someO, noneO, ixW, addW, subW, mulW, modW, cmpW, negW, lenW, intW, tabW, isNonB, isNonW, isNon_d, List.map_cons, List.map_nil, List.length_cons, List.length_nil, List.replicate, List.append_nil, List.nil_append, List.cons_append, List.getElem?_cons_zero, List.getElem?_cons_succ, List.set_cons_zero, List.set_cons_succ, Nat.reduceAdd, Nat.reduceSub, if_true, if_false, ite_true, ite_false, Bool.not_true, Bool.not_false, Bool.and_true, Bool.and_false, Bool.false_eq_true, reduceIte, fin_same, finE_same, fin_new, atI_0, atI_1, atI_2, eqW_ofs, look_ofs, look_nil, dspC, newDc, inW, Option.isSome_some, Option.isSome_none, itM, forM, items_dl, items_dt, methL, methD, arg0, arg1, arg2, appendW, popW, listW, get_new, set_new, isLst_new, pow109, String.reduceBEq, String.reduceEq, Bool.false_or, Bool.true_or, Bool.or_false, Bool.or_true, e5, cut_to, s0]
        simp [plainK, Op.puts, Row.wants]
      | add =>
        have e6 := s2 (ks.length - (Row.op Op.add).wants.length) [Kd.enc .num] (by simp)
        simp only [Row.enc, Op.s]
        simp only [szs, fnM, rawM, seqM, ifM, tvM, truM, binM, unM, appM, consA, nilA, varM, conM, retM, retN, asgM, expM, raiseM, passS, callF, app1, app2, noExc, isExc_d, isExc_c, bindS_ok, bindS_err, bindS_stuck, Res.bind_ok, Res.bind_err, Res.bind_stuck, onBl_bl, andT, orT, notT, andV, orV, notV, tupM, lstM, toDs, toD, asD_d, asD_new, frzW_d, newT, newL, slM, slW, someO, noneO, ixW, addW, subW, mulW, modW, cmpW, negW, lenW, intW, tabW, isNonB, isNonW, isNon_d, List.map_cons, List.map_nil, List.length_cons, List.length_nil, List.replicate, List.append_nil, List.nil_append, List.cons_append, List.getElem?_cons_zero, List.getElem?_cons_succ, List.set_cons_zero, List.set_cons_succ, Nat.reduceAdd, Nat.reduceSub, if_true, if_false, ite_true, ite_false, Bool.not_true, Bool.not_false, Bool.and_true, Bool.and_false, Bool.false_eq_true, reduceIte, fin_same, finE_same, fin_new, atI_0, atI_1, atI_2, eqW_ofs, look_ofs, look_nil, dspC, newDc, inW, Option.isSome_some, Option.isSome_none, itM, forM, items_dl, items_dt, methL, methD, arg0, arg1, arg2, appendW, popW, listW, get_new, set_new, isLst_new, pow109, String.reduceBEq, String.reduceEq, Bool.false_or, Bool.true_or, Bool.or_false, Bool.or_true, e5, cut_to, s0, lk_add]
        rw [if_pos e6]
        simp [plainK, bindS, fin_same, Op.puts, Row.wants]
      | mul =>
        have e6 := s2 (ks.length - (Row.op Op.mul).wants.length) [Kd.enc .num] (by simp)
        simp only [Row.enc, Op.s]
        simp only [szs, fnM, rawM, seqM, ifM, tvM, truM, binM, unM, appM, consA, nilA, varM, conM, retM, retN, asgM, expM, raiseM, passS, callF, app1, app2, noExc, isExc_d, isExc_c, bindS_ok, bindS_err, bindS_stuck, Res.bind_ok, Res.bind_err, Res.bind_stuck, onBl_bl, andT, orT, notT, andV, orV, notV, tupM, lstM, toDs, toD, asD_d, asD_new, frzW_d, newT, newL, slM, slW, someO, noneO, ixW, addW, subW, mulW, modW, cmpW, negW, lenW, intW, tabW, isNonB, isNonW, isNon_d, List.map_cons, List.map_nil, List.length_cons, List.length_nil, List.replicate, List.append_nil, List.nil_append, List.cons_append, List.getElem?_cons_zero, List.getElem?_cons_succ, List.set_cons_zero, List.set_cons_succ, Nat.reduceAdd, Nat.reduceSub, if_true, if_false, ite_true, ite_false, Bool.not_true, Bool.not_false, Bool.and_true, Bool.and_false, Bool.false_eq_true, reduceIte, fin_same, finE_same, fin_new, atI_0, atI_1, atI_2, eqW_ofs, look_ofs, look_nil, dspC, newDc, inW, Option.isSome_some, Option.isSome_none, itM, forM, items_dl, items_dt, methL, methD, arg0, arg1, arg2, appendW, popW, listW, get_new, set_new, isLst_new, pow109, String.reduceBEq, String.reduceEq, Bool.false_or, Bool.true_or, Bool.or_false, Bool.or_true, e5, cut_to, s0, lk_mul]
        rw [if_pos e6]
        simp [plainK, bindS, fin_same, Op.puts, Row.wants]
      | less =>
        have e6 := s2 (ks.length - (Row.op Op.less).wants.length) [Kd.enc .num] (by simp)
        simp only [Row.enc, Op.s]
        simp only [szs, fnM, rawM, seqM, ifM, tvM, truM, binM, unM, appM, consA, nilA, varM, conM, retM, retN, asgM, expM, raiseM, passS, callF, app1, app2, noExc, isExc_d, isExc_c, bindS_ok, bindS_err, bindS_stuck, Res.bind_ok, Res.bind_err, Res.bind_stuck, onBl_bl, andT, orT, notT, andV, orV, notV, tupM, lstM, toDs, toD, asD_d, asD_new, frzW_d, newT, newL, slM, slW, someO, noneO, ixW, addW, subW, mulW, modW, cmpW, negW, lenW, intW, tabW, isNonB, isNonW, isNon_d, List.map_cons, List.map_nil, List.length_cons, List.length_nil, List.replicate, List.append_nil, List.nil_append, List.cons_append, List.getElem?_cons_zero, List.getElem?_cons_succ, List.set_cons_zero, List.set_cons_succ, Nat.reduceAdd, Nat.reduceSub, if_true, if_false, ite_true, ite_false, Bool.not_true, Bool.not_false, Bool.and_true, Bool.and_false, Bool.false_eq_true, reduceIte, fin_same, finE_same, fin_new, atI_0, atI_1, atI_2, eqW_ofs, look_ofs, look_nil, dspC, newDc, inW, Option.isSome_some, Option.isSome_none, itM, forM, items_dl, items_dt, methL, methD, arg0, arg1, arg2, appendW, popW, listW, get_new, set_new, isLst_new, pow109, String.reduceBEq, String.reduceEq, Bool.false_or, Bool.true_or, Bool.or_false, Bool.or_true, e5, cut_to, s0, lk_less]
        rw [if_pos e6]
        simp [plainK, bindS, fin_same, Op.puts, Row.wants]
      | join =>
        have e6 := s2 (ks.length - (Row.op Op.join).wants.length) [Kd.enc .text] (by simp)
        simp only [Row.enc, Op.s]
        simp only [szs, fnM, rawM, seqM, ifM, tvM, truM, binM, unM, appM, consA, nilA, varM, conM, retM, retN, asgM, expM, raiseM, passS, callF, app1, app2, noExc, isExc_d, isExc_c, bindS_ok, bindS_err, bindS_stuck, Res.bind_ok, Res.bind_err, Res.bind_stuck, onBl_bl, andT, orT, notT, andV, orV, notV, tupM, lstM, toDs, toD, asD_d, asD_new, frzW_d, newT, newL, slM, slW, someO, noneO, ixW, addW, subW, mulW, modW, cmpW, negW, lenW, intW, tabW, isNonB, isNonW, isNon_d, List.map_cons, List.map_nil, List.length_cons, List.length_nil, List.replicate, List.append_nil, List.nil_append, List.cons_append, List.getElem?_cons_zero, List.getElem?_cons_succ, List.set_cons_zero, List.set_cons_succ, Nat.reduceAdd, Nat.reduceSub, if_true, if_false, ite_true, ite_false, Bool.not_true, Bool.not_false, Bool.and_true, Bool.and_false, Bool.false_eq_true, reduceIte, fin_same, finE_same, fin_new, atI_0, atI_1, atI_2, eqW_ofs, look_ofs, look_nil, dspC, newDc, inW, Option.isSome_some, Option.isSome_none, itM, forM, items_dl, items_dt, methL, methD, arg0, arg1, arg2, appendW, popW, listW, get_new, set_new, isLst_new, pow109, String.reduceBEq, String.reduceEq, Bool.false_or, Bool.true_or, Bool.or_false, Bool.or_true, e5, cut_to, s0, lk_join]
        rw [if_pos e6]
        simp [plainK, bindS, fin_same, Op.puts, Row.wants]
      | long =>
        have e6 := s2 (ks.length - (Row.op Op.long).wants.length) [Kd.enc .num] (by simp)
        simp only [Row.enc, Op.s]
        simp only [szs, fnM, rawM, seqM, ifM, tvM, truM, binM, unM, appM, consA, nilA, varM, conM, retM, retN, asgM, expM, raiseM, passS, callF, app1, app2, noExc, isExc_d, isExc_c, bindS_ok, bindS_err, bindS_stuck, Res.bind_ok, Res.bind_err, Res.bind_stuck, onBl_bl, andT, orT, notT, andV, orV, notV, tupM, lstM, toDs, toD, asD_d, asD_new, frzW_d, newT, newL, slM, slW, someO, noneO, ixW, addW, subW, mulW, modW, cmpW, negW, lenW, intW, tabW, isNonB, isNonW, isNon_d, List.map_cons, List.map_nil, List.length_cons, List.length_nil, List.replicate, List.append_nil, List.nil_append, List.cons_append, List.getElem?_cons_zero, List.getElem?_cons_succ, List.set_cons_zero, List.set_cons_succ, Nat.reduceAdd, Nat.reduceSub, if_true, if_false, ite_true, ite_false, Bool.not_true, Bool.not_false, Bool.and_true, Bool.and_false, Bool.false_eq_true, reduceIte, fin_same, finE_same, fin_new, atI_0, atI_1, atI_2, eqW_ofs, look_ofs, look_nil, dspC, newDc, inW, Option.isSome_some, Option.isSome_none, itM, forM, items_dl, items_dt, methL, methD, arg0, arg1, arg2, appendW, popW, listW, get_new, set_new, isLst_new, pow109, String.reduceBEq, String.reduceEq, Bool.false_or, Bool.true_or, Bool.or_false, Bool.or_true, e5, cut_to, s0, lk_long]
        rw [if_pos e6]
        simp [plainK, bindS, fin_same, Op.puts, Row.wants]
      | shw =>
        have e6 := s2 (ks.length - (Row.op Op.shw).wants.length) [Kd.enc .text] (by simp)
        simp only [Row.enc, Op.s]
        simp only [szs, fnM, rawM, seqM, ifM, tvM, truM, binM, unM, appM, consA, nilA, varM, conM, retM, retN, asgM, expM, raiseM, passS, callF, app1, app2, noExc, isExc_d, isExc_c, bindS_ok, bindS_err, bindS_stuck, Res.bind_ok, Res.bind_err, Res.bind_stuck, onBl_bl, andT, orT, notT, andV, orV, notV, tupM, lstM, toDs, toD, asD_d, asD_new, frzW_d, newT, newL, slM, slW, someO, noneO, ixW, addW, subW, mulW, modW, cmpW, negW, lenW, intW, tabW, isNonB, isNonW, isNon_d, List.map_cons, List.map_nil, List.length_cons, List.length_nil, List.replicate, List.append_nil, List.nil_append, List.cons_append, List.getElem?_cons_zero, List.getElem?_cons_succ, List.set_cons_zero, List.set_cons_succ, Nat.reduceAdd, Nat.reduceSub, if_true, if_false, ite_true, ite_false, Bool.not_true, Bool.not_false, Bool.and_true, Bool.and_false, Bool.false_eq_true, reduceIte, fin_same, finE_same, fin_new, atI_0, atI_1, atI_2, eqW_ofs, look_ofs, look_nil, dspC, newDc, inW, Option.isSome_some, Option.isSome_none, itM, forM, items_dl, items_dt, methL, methD, arg0, arg1, arg2, appendW, popW, listW, get_new, set_new, isLst_new, pow109, String.reduceBEq, String.reduceEq, Bool.false_or, Bool.true_or, Bool.or_false, Bool.or_true, e5, cut_to, s0, lk_show]
        rw [if_pos e6]
        simp [plainK, bindS, fin_same, Op.puts, Row.wants]
end Py

namespace Py
open PySem L2
end Py

namespace Py
open PySem L2
theorem p_behind_plain (pr : W) (ks : List Kd) (r : Row) (st : Store) (hr : r.ok) (hl : ks.length ≤ 400000) :
    s_p_behind [pr, .d (.tup (encK ks)), .d r.enc] st = match need ks r.wants with | some e => .err e st | none => .ok (.d (.tup (encK (plainK r ks)))) st := by
  have e := p_plainly_ok ks r st hr hl
  unfold s_p_behind b_p_behind
  cases q : need ks r.wants with
  | some c =>
    rw [q] at e
    cases r with
    | num v => simp only [Row.enc] at e ⊢; simp only [szs, fnM, rawM, seqM, ifM, tvM, truM, binM, unM, appM, consA, nilA, varM, conM, retM, retN, asgM, expM, raiseM, passS, callF, app1, app2, noExc, isExc_d, isExc_c, bindS_ok, bindS_err, bindS_stuck, Res.bind_ok, Res.bind_err, Res.bind_stuck, onBl_bl, andT, orT, notT, andV, orV, notV, tupM, lstM, toDs, toD, asD_d, asD_new, frzW_d, newT, newL, slM, slW, someO, noneO, ixW, addW, subW, mulW, modW, cmpW, negW, lenW, intW, tabW, isNonB, isNonW, isNon_d, List.map_cons, List.map_nil, List.length_cons, List.length_nil, List.replicate, List.append_nil, List.nil_append, List.cons_append, List.getElem?_cons_zero, List.getElem?_cons_succ, List.set_cons_zero, List.set_cons_succ, Nat.reduceAdd, Nat.reduceSub, if_true, if_false, ite_true, ite_false, Bool.not_true, Bool.not_false, Bool.and_true, Bool.and_false, Bool.false_eq_true, reduceIte, fin_same, finE_same, fin_new, atI_0, atI_1, atI_2, eqW_ofs, look_ofs, look_nil, dspC, newDc, inW, Option.isSome_some, Option.isSome_none, itM, forM, items_dl, items_dt, methL, methD, arg0, arg1, arg2, appendW, popW, listW, get_new, set_new, isLst_new, pow109, String.reduceBEq, String.reduceEq, Bool.false_or, Bool.true_or, Bool.or_false, Bool.or_true, e]
    | text v => simp only [Row.enc] at e ⊢; simp only [szs, fnM, rawM, seqM, ifM, tvM, truM, binM, unM, appM, consA, nilA, varM, conM, retM, retN, asgM, expM, raiseM, passS, callF, app1, app2, noExc, isExc_d, isExc_c, bindS_ok, bindS_err, bindS_stuck, Res.bind_ok, Res.bind_err, Res.bind_stuck, onBl_bl, andT, orT, notT, andV, orV, notV, tupM, lstM, toDs, toD, asD_d, asD_new, frzW_d, newT, newL, slM, slW, someO, noneO, ixW, addW, subW, mulW, modW, cmpW, negW, lenW, intW, tabW, isNonB, isNonW, isNon_d, List.map_cons, List.map_nil, List.length_cons, List.length_nil, List.replicate, List.append_nil, List.nil_append, List.cons_append, List.getElem?_cons_zero, List.getElem?_cons_succ, List.set_cons_zero, List.set_cons_succ, Nat.reduceAdd, Nat.reduceSub, if_true, if_false, ite_true, ite_false, Bool.not_true, Bool.not_false, Bool.and_true, Bool.and_false, Bool.false_eq_true, reduceIte, fin_same, finE_same, fin_new, atI_0, atI_1, atI_2, eqW_ofs, look_ofs, look_nil, dspC, newDc, inW, Option.isSome_some, Option.isSome_none, itM, forM, items_dl, items_dt, methL, methD, arg0, arg1, arg2, appendW, popW, listW, get_new, set_new, isLst_new, pow109, String.reduceBEq, String.reduceEq, Bool.false_or, Bool.true_or, Bool.or_false, Bool.or_true, e]
    | copy v => simp only [Row.enc] at e ⊢; simp only [szs, fnM, rawM, seqM, ifM, tvM, truM, binM, unM, appM, consA, nilA, varM, conM, retM, retN, asgM, expM, raiseM, passS, callF, app1, app2, noExc, isExc_d, isExc_c, bindS_ok, bindS_err, bindS_stuck, Res.bind_ok, Res.bind_err, Res.bind_stuck, onBl_bl, andT, orT, notT, andV, orV, notV, tupM, lstM, toDs, toD, asD_d, asD_new, frzW_d, newT, newL, slM, slW, someO, noneO, ixW, addW, subW, mulW, modW, cmpW, negW, lenW, intW, tabW, isNonB, isNonW, isNon_d, List.map_cons, List.map_nil, List.length_cons, List.length_nil, List.replicate, List.append_nil, List.nil_append, List.cons_append, List.getElem?_cons_zero, List.getElem?_cons_succ, List.set_cons_zero, List.set_cons_succ, Nat.reduceAdd, Nat.reduceSub, if_true, if_false, ite_true, ite_false, Bool.not_true, Bool.not_false, Bool.and_true, Bool.and_false, Bool.false_eq_true, reduceIte, fin_same, finE_same, fin_new, atI_0, atI_1, atI_2, eqW_ofs, look_ofs, look_nil, dspC, newDc, inW, Option.isSome_some, Option.isSome_none, itM, forM, items_dl, items_dt, methL, methD, arg0, arg1, arg2, appendW, popW, listW, get_new, set_new, isLst_new, pow109, String.reduceBEq, String.reduceEq, Bool.false_or, Bool.true_or, Bool.or_false, Bool.or_true, e]
    | op o => cases o <;> (simp only [Row.enc, Op.s] at e ⊢; simp only [szs, fnM, rawM, seqM, ifM, tvM, truM, binM, unM, appM, consA, nilA, varM, conM, retM, retN, asgM, expM, raiseM, passS, callF, app1, app2, noExc, isExc_d, isExc_c, bindS_ok, bindS_err, bindS_stuck, Res.bind_ok, Res.bind_err, Res.bind_stuck, onBl_bl, andT, orT, notT, andV, orV, notV, tupM, lstM, toDs, toD, asD_d, asD_new, frzW_d, newT, newL, slM, slW, someO, noneO, ixW, addW, subW, mulW, modW, cmpW, negW, lenW, intW, tabW, isNonB, isNonW, isNon_d, List.map_cons, List.map_nil, List.length_cons, List.length_nil, List.replicate, List.append_nil, List.nil_append, List.cons_append, List.getElem?_cons_zero, List.getElem?_cons_succ, List.set_cons_zero, List.set_cons_succ, Nat.reduceAdd, Nat.reduceSub, if_true, if_false, ite_true, ite_false, Bool.not_true, Bool.not_false, Bool.and_true, Bool.and_false, Bool.false_eq_true, reduceIte, fin_same, finE_same, fin_new, atI_0, atI_1, atI_2, eqW_ofs, look_ofs, look_nil, dspC, newDc, inW, Option.isSome_some, Option.isSome_none, itM, forM, items_dl, items_dt, methL, methD, arg0, arg1, arg2, appendW, popW, listW, get_new, set_new, isLst_new, pow109, String.reduceBEq, String.reduceEq, Bool.false_or, Bool.true_or, Bool.or_false, Bool.or_true, e])
  | none =>
    rw [q] at e
    cases r with
    | num v => simp only [Row.enc] at e ⊢; simp only [szs, fnM, rawM, seqM, ifM, tvM, truM, binM, unM, appM, consA, nilA, varM, conM, retM, retN, asgM, expM, raiseM, passS, callF, app1, app2, noExc, isExc_d, isExc_c, bindS_ok, bindS_err, bindS_stuck, Res.bind_ok, Res.bind_err, Res.bind_stuck, onBl_bl, andT, orT, notT, andV, orV, notV, tupM, lstM, toDs, toD, asD_d, asD_new, frzW_d, newT, newL, slM, slW, someO, noneO, ixW, addW, subW, mulW, modW, cmpW, negW, lenW, intW, tabW, isNonB, isNonW, isNon_d, List.map_cons, List.map_nil, List.length_cons, List.length_nil, List.replicate, List.append_nil, List.nil_append, List.cons_append, List.getElem?_cons_zero, List.getElem?_cons_succ, List.set_cons_zero, List.set_cons_succ, Nat.reduceAdd, Nat.reduceSub, if_true, if_false, ite_true, ite_false, Bool.not_true, Bool.not_false, Bool.and_true, Bool.and_false, Bool.false_eq_true, reduceIte, fin_same, finE_same, fin_new, atI_0, atI_1, atI_2, eqW_ofs, look_ofs, look_nil, dspC, newDc, inW, Option.isSome_some, Option.isSome_none, itM, forM, items_dl, items_dt, methL, methD, arg0, arg1, arg2, appendW, popW, listW, get_new, set_new, isLst_new, pow109, String.reduceBEq, String.reduceEq, Bool.false_or, Bool.true_or, Bool.or_false, Bool.or_true, e]
    | text v => simp only [Row.enc] at e ⊢; simp only [szs, fnM, rawM, seqM, ifM, tvM, truM, binM, unM, appM, consA, nilA, varM, conM, retM, retN, asgM, expM, raiseM, passS, callF, app1, app2, noExc, isExc_d, isExc_c, bindS_ok, bindS_err, bindS_stuck, Res.bind_ok, Res.bind_err, Res.bind_stuck, onBl_bl, andT, orT, notT, andV, orV, notV, tupM, lstM, toDs, toD, asD_d, asD_new, frzW_d, newT, newL, slM, slW, someO, noneO, ixW, addW, subW, mulW, modW, cmpW, negW, lenW, intW, tabW, isNonB, isNonW, isNon_d, List.map_cons, List.map_nil, List.length_cons, List.length_nil, List.replicate, List.append_nil, List.nil_append, List.cons_append, List.getElem?_cons_zero, List.getElem?_cons_succ, List.set_cons_zero, List.set_cons_succ, Nat.reduceAdd, Nat.reduceSub, if_true, if_false, ite_true, ite_false, Bool.not_true, Bool.not_false, Bool.and_true, Bool.and_false, Bool.false_eq_true, reduceIte, fin_same, finE_same, fin_new, atI_0, atI_1, atI_2, eqW_ofs, look_ofs, look_nil, dspC, newDc, inW, Option.isSome_some, Option.isSome_none, itM, forM, items_dl, items_dt, methL, methD, arg0, arg1, arg2, appendW, popW, listW, get_new, set_new, isLst_new, pow109, String.reduceBEq, String.reduceEq, Bool.false_or, Bool.true_or, Bool.or_false, Bool.or_true, e]
    | copy v => simp only [Row.enc] at e ⊢; simp only [szs, fnM, rawM, seqM, ifM, tvM, truM, binM, unM, appM, consA, nilA, varM, conM, retM, retN, asgM, expM, raiseM, passS, callF, app1, app2, noExc, isExc_d, isExc_c, bindS_ok, bindS_err, bindS_stuck, Res.bind_ok, Res.bind_err, Res.bind_stuck, onBl_bl, andT, orT, notT, andV, orV, notV, tupM, lstM, toDs, toD, asD_d, asD_new, frzW_d, newT, newL, slM, slW, someO, noneO, ixW, addW, subW, mulW, modW, cmpW, negW, lenW, intW, tabW, isNonB, isNonW, isNon_d, List.map_cons, List.map_nil, List.length_cons, List.length_nil, List.replicate, List.append_nil, List.nil_append, List.cons_append, List.getElem?_cons_zero, List.getElem?_cons_succ, List.set_cons_zero, List.set_cons_succ, Nat.reduceAdd, Nat.reduceSub, if_true, if_false, ite_true, ite_false, Bool.not_true, Bool.not_false, Bool.and_true, Bool.and_false, Bool.false_eq_true, reduceIte, fin_same, finE_same, fin_new, atI_0, atI_1, atI_2, eqW_ofs, look_ofs, look_nil, dspC, newDc, inW, Option.isSome_some, Option.isSome_none, itM, forM, items_dl, items_dt, methL, methD, arg0, arg1, arg2, appendW, popW, listW, get_new, set_new, isLst_new, pow109, String.reduceBEq, String.reduceEq, Bool.false_or, Bool.true_or, Bool.or_false, Bool.or_true, e]
    | op o => cases o <;> (simp only [Row.enc, Op.s] at e ⊢; simp only [szs, fnM, rawM, seqM, ifM, tvM, truM, binM, unM, appM, consA, nilA, varM, conM, retM, retN, asgM, expM, raiseM, passS, callF, app1, app2, noExc, isExc_d, isExc_c, bindS_ok, bindS_err, bindS_stuck, Res.bind_ok, Res.bind_err, Res.bind_stuck, onBl_bl, andT, orT, notT, andV, orV, notV, tupM, lstM, toDs, toD, asD_d, asD_new, frzW_d, newT, newL, slM, slW, someO, noneO, ixW, addW, subW, mulW, modW, cmpW, negW, lenW, intW, tabW, isNonB, isNonW, isNon_d, List.map_cons, List.map_nil, List.length_cons, List.length_nil, List.replicate, List.append_nil, List.nil_append, List.cons_append, List.getElem?_cons_zero, List.getElem?_cons_succ, List.set_cons_zero, List.set_cons_succ, Nat.reduceAdd, Nat.reduceSub, if_true, if_false, ite_true, ite_false, Bool.not_true, Bool.not_false, Bool.and_true, Bool.and_false, Bool.false_eq_true, reduceIte, fin_same, finE_same, fin_new, atI_0, atI_1, atI_2, eqW_ofs, look_ofs, look_nil, dspC, newDc, inW, Option.isSome_some, Option.isSome_none, itM, forM, items_dl, items_dt, methL, methD, arg0, arg1, arg2, appendW, popW, listW, get_new, set_new, isLst_new, pow109, String.reduceBEq, String.reduceEq, Bool.false_or, Bool.true_or, Bool.or_false, Bool.or_true, e])
end Py

namespace Py
open PySem L2
end Py

namespace Py
open PySem L2
end Py

namespace Py
open PySem L2
end Py

namespace Py
open PySem L2
theorem fineK : ∀ (ks : List Kd), fineL (encK ks) = true
  | [] => rfl
  | k :: ks => by
    show (k.enc.fine && fineL (encK ks)) = true
    rw [fineK ks, Bool.and_true]; exact fine_ofs k.s
theorem depK : ∀ (ks : List Kd), depL (encK ks) = 0
  | [] => rfl
  | k :: ks => by
    show max k.enc.dep (depL (encK ks)) = 0
    rw [depK ks]; rfl
end Py

namespace Py
open PySem L2
/-! ### rows, blocks, programs -/
inductive Rw where
  | plain (r : Row) | call (n : Str) | iff (a b : Str)
def Rw.enc : Rw → D
  | .plain r => r.enc
  | .call n => .tup [.str "call", .str n]
  | .iff a b => .tup [.str "if", .str a, .str b]
structure NmOk (n : Str) : Prop where
  ok : PyData.strOk n = true
  lo : 1 ≤ n.length
  hi : n.length ≤ 300
def Rw.ok : Rw → Prop
  | .plain r => r.ok
  | .call n => PyData.strOk n = true
  | .iff a b => PyData.strOk a = true ∧ PyData.strOk b = true
/-- what a dict of programs tells of the kinds -/
abbrev Tl := Str → Option (List Kd × List Kd)
def Sees (kvs : List (Str × D)) (f : Tl) : Prop := ∀ n, match f n with
  | none => look n kvs = none
  | some (i, o) => ∃ r, look n kvs = some (.tup (.tup (encK i) :: .tup (encK o) :: r))
def Small (f : Tl) : Prop := ∀ n i o, f n = some (i, o) → i.length ≤ 60 ∧ o.length ≤ 60
def calledK (ks i o : List Kd) : Except Exc (List Kd) := match need ks (i.map some) with
  | some e => .error e
  | none => .ok (ks.take (ks.length - i.length) ++ o)
def nextK (f : Tl) (ks : List Kd) : Rw → Except Exc (List Kd)
  | .plain r => match need ks r.wants with
    | some e => .error e
    | none => .ok (plainK r ks)
  | .call n => match f n with
    | none => .error .block
    | some (i, o) => calledK ks i o
  | .iff a b => match need ks [some .num] with
    | some e => .error e
    | none => match f a, f b with
      | some (i, o), some (i', o') => if i = i' ∧ o = o' then calledK ks.dropLast i o else .error .apart
      | _, _ => .error .block
theorem eqvK2 : ∀ (a b : List Kd), eqvL (encK a) (encK b) = decide (a = b)
  | [], [] => rfl
  | [], _ :: _ => rfl
  | _ :: _, [] => rfl
  | a :: as, b :: bs => by
    show (a.enc.eqv b.enc && eqvL (encK as) (encK bs)) = _
    rw [eqvK2 as bs]
    cases a <;> cases b <;> simp [Kd.enc, Kd.s, D.eqv, ofString_beq]
theorem eqW_K (neg : Bool) (a b : List Kd) (st : Store) : eqW neg (.d (.tup (encK a))) (.d (.tup (encK b))) st = .ok (.d (.bl (if neg then !(decide (a = b)) else decide (a = b)))) st := by
  unfold eqW
  have : eqD (.tup (encK a)) (.tup (encK b)) = some (decide (a = b)) := by
    unfold eqD
    simp only [D.fine, D.dep, fineK, depK, D.eqv, eqvK2]
    simp
  simp only [asD_d, this]
theorem encO_some (i : List Kd) : (i.map some).map encO = encK i := by rw [List.map_map]; rfl
theorem p_called_ok (ks i o : List Kd) (r : List D) (st : Store) (hl : ks.length ≤ 400000) (ho : o.length ≤ 60) :
    s_p_called [.d (.tup (encK ks)), .d (.tup (.tup (encK i) :: .tup (encK o) :: r))] st = match calledK ks i o with | .error e => .err e st | .ok ks' => .ok (.d (.tup (encK ks'))) st := by
  have e := need_ok ks (i.map some) st (by omega)
  rw [encO_some] at e
  unfold s_p_called b_p_called calledK
  cases q : need ks (i.map some) with
  | some c =>
    rw [q] at e
    simp only [szs, fnM, rawM, seqM, ifM, tvM, truM, binM, unM, appM, consA, nilA, varM, conM, retM, retN, asgM, expM, raiseM, passS, callF, app1, app2, noExc, isExc_d, isExc_c, bindS_ok, bindS_err, bindS_stuck, Res.bind_ok, Res.bind_err, Res.bind_stuck, onBl_bl, andT, orT, notT, andV, orV, notV, tupM, lstM, toDs, toD, asD_d, asD_new, frzW_d, newT, newL, slM, slW, someO, noneO, ixW, addW, subW, mulW, modW, cmpW, negW, lenW, intW, tabW, isNonB, isNonW, isNon_d, List.map_cons, List.map_nil, List.length_cons, List.length_nil, List.replicate, List.append_nil, List.nil_append, List.cons_append, List.getElem?_cons_zero, List.getElem?_cons_succ, List.set_cons_zero, List.set_cons_succ, Nat.reduceAdd, Nat.reduceSub, if_true, if_false, ite_true, ite_false, Bool.not_true, Bool.not_false, Bool.and_true, Bool.and_false, Bool.false_eq_true, reduceIte, fin_same, finE_same, fin_new, atI_0, atI_1, atI_2, eqW_ofs, look_ofs, look_nil, dspC, newDc, inW, Option.isSome_some, Option.isSome_none, itM, forM, items_dl, items_dt, methL, methD, arg0, arg1, arg2, appendW, popW, listW, get_new, set_new, isLst_new, pow109, String.reduceBEq, String.reduceEq, Bool.false_or, Bool.true_or, Bool.or_false, Bool.or_true, e]
  | none =>
    rw [q] at e
    have hwl := (need_none q).1
    rw [List.length_map] at hwl
    have e5 : ((encK ks).length : Int) - ((encK i).length : Int) = ((ks.length - i.length : Nat) : Int) := by rw [List.length_map, List.length_map]; omega
    have s1 : (List.take (ks.length - i.length) (encK ks)).length ≤ sizeLine := small (by rw [List.length_take, List.length_map]; omega)
    have s2 : (List.take (ks.length - i.length) (encK ks) ++ encK o).length ≤ sizeLine := small (by rw [List.length_append, List.length_take, List.length_map, List.length_map]; omega)
    simp only [szs, fnM, rawM, seqM, ifM, tvM, truM, binM, unM, appM, consA, nilA, varM, conM, retM, retN, asgM, expM, raiseM, passS, callF, app1, app2, noExc, isExc_d, isExc_c, bindS_ok, bindS_err, bindS_stuck, Res.bind_ok, Res.bind_err, Res.bind_stuck, onBl_bl, andT, orT, notT, andV, orV, notV, tupM, lstM, toDs, toD, asD_d, asD_new, frzW_d, newT, newL, slM, slW, someO, noneO, ixW, addW, subW, mulW, modW, cmpW, negW, lenW, intW, tabW, isNonB, isNonW, isNon_d, List.map_cons, List.map_nil, List.length_cons, List.length_nil, List.replicate, List.append_nil, List.nil_append, List.cons_append, List.getElem?_cons_zero, List.getElem?_cons_succ, List.set_cons_zero, List.set_cons_succ, Nat.reduceAdd, Nat.reduceSub, if_true, if_false, ite_true, ite_false, Bool.not_true, Bool.not_false, Bool.and_true, Bool.and_false, Bool.false_eq_true, reduceIte, fin_same, finE_same, fin_new, atI_0, atI_1, atI_2, eqW_ofs, look_ofs, look_nil, dspC, newDc, inW, Option.isSome_some, Option.isSome_none, itM, forM, items_dl, items_dt, methL, methD, arg0, arg1, arg2, appendW, popW, listW, get_new, set_new, isLst_new, pow109, String.reduceBEq, String.reduceEq, Bool.false_or, Bool.true_or, Bool.or_false, Bool.or_true, e, e5, cut_to, s1, s2]
    simp
theorem sees_none {kvs : List (Str × D)} {f : Tl} {n : Str} (h : Sees kvs f) (e : f n = none) : look n kvs = none := by
  have := h n; rw [e] at this; exact this
theorem sees_some {kvs : List (Str × D)} {f : Tl} {n : Str} {i o : List Kd} (h : Sees kvs f) (e : f n = some (i, o)) : ∃ r, look n kvs = some (.tup (.tup (encK i) :: .tup (encK o) :: r)) := by
  have := h n; rw [e] at this; exact this
theorem p_block_none (w : W) (kvs : List (Str × D)) (n : Str) (st : Store) (hw : asD st w = some (.dct kvs)) (e : look n kvs = none) : s_p_block_of [w, .d (.str n)] st = .err .block st := by
  unfold s_p_block_of b_p_block_of
  simp only [szs, fnM, rawM, seqM, ifM, tvM, truM, binM, unM, appM, consA, nilA, varM, conM, retM, retN, asgM, expM, raiseM, passS, callF, app1, app2, noExc, isExc_d, isExc_c, bindS_ok, bindS_err, bindS_stuck, Res.bind_ok, Res.bind_err, Res.bind_stuck, onBl_bl, andT, orT, notT, andV, orV, notV, tupM, lstM, toDs, toD, asD_d, asD_new, frzW_d, newT, newL, slM, slW, someO, noneO, ixW, addW, subW, mulW, modW, cmpW, negW, lenW, intW, tabW, isNonB, isNonW, isNon_d, List.map_cons, List.map_nil, List.length_cons, List.length_nil, List.replicate, List.append_nil, List.nil_append, List.cons_append, List.getElem?_cons_zero, List.getElem?_cons_succ, List.set_cons_zero, List.set_cons_succ, Nat.reduceAdd, Nat.reduceSub, if_true, if_false, ite_true, ite_false, Bool.not_true, Bool.not_false, Bool.and_true, Bool.and_false, Bool.false_eq_true, reduceIte, fin_same, finE_same, fin_new, atI_0, atI_1, atI_2, eqW_ofs, look_ofs, look_nil, dspC, newDc, inW, Option.isSome_some, Option.isSome_none, itM, forM, items_dl, items_dt, methL, methD, arg0, arg1, arg2, appendW, popW, listW, get_new, set_new, isLst_new, pow109, String.reduceBEq, String.reduceEq, Bool.false_or, Bool.true_or, Bool.or_false, Bool.or_true, hw, e]
theorem p_block_some (w : W) (kvs : List (Str × D)) (n : Str) (v : D) (st : Store) (hw : asD st w = some (.dct kvs)) (e : look n kvs = some v) : s_p_block_of [w, .d (.str n)] st = .ok (.d v) st := by
  unfold s_p_block_of b_p_block_of
  simp only [szs, fnM, rawM, seqM, ifM, tvM, truM, binM, unM, appM, consA, nilA, varM, conM, retM, retN, asgM, expM, raiseM, passS, callF, app1, app2, noExc, isExc_d, isExc_c, bindS_ok, bindS_err, bindS_stuck, Res.bind_ok, Res.bind_err, Res.bind_stuck, onBl_bl, andT, orT, notT, andV, orV, notV, tupM, lstM, toDs, toD, asD_d, asD_new, frzW_d, newT, newL, slM, slW, someO, noneO, ixW, addW, subW, mulW, modW, cmpW, negW, lenW, intW, tabW, isNonB, isNonW, isNon_d, List.map_cons, List.map_nil, List.length_cons, List.length_nil, List.replicate, List.append_nil, List.nil_append, List.cons_append, List.getElem?_cons_zero, List.getElem?_cons_succ, List.set_cons_zero, List.set_cons_succ, Nat.reduceAdd, Nat.reduceSub, if_true, if_false, ite_true, ite_false, Bool.not_true, Bool.not_false, Bool.and_true, Bool.and_false, Bool.false_eq_true, reduceIte, fin_same, finE_same, fin_new, atI_0, atI_1, atI_2, eqW_ofs, look_ofs, look_nil, dspC, newDc, inW, Option.isSome_some, Option.isSome_none, itM, forM, items_dl, items_dt, methL, methD, arg0, arg1, arg2, appendW, popW, listW, get_new, set_new, isLst_new, pow109, String.reduceBEq, String.reduceEq, Bool.false_or, Bool.true_or, Bool.or_false, Bool.or_true, hw, e]
theorem cut1K (us : List Kd) (a : Kd) : cut (encK (us ++ [a])) none (some (-1)) = encK us := by
  have := cut_neg (encK (us ++ [a])) 1 (by decide)
  rw [show (-((1 : Nat) : Int)) = -1 from rfl] at this
  rw [this]
  simp
theorem p_behind_ok (w : W) (kvs : List (Str × D)) (f : Tl) (ks : List Kd) (r : Rw) (st : Store) (hw : asD st w = some (.dct kvs)) (hs : Sees kvs f) (hf : Small f) (hr : r.ok) (hl : ks.length ≤ 400000) :
    s_p_behind [w, .d (.tup (encK ks)), .d r.enc] st = match nextK f ks r with | .error e => .err e st | .ok ks' => .ok (.d (.tup (encK ks'))) st := by
  have hx : w.isExc = false := noExc_of hw
  cases r with
  | plain r =>
    have e := p_behind_plain w ks r st hr hl
    simp only [Rw.enc, e, nextK]
    cases need ks r.wants <;> rfl
  | call n =>
    unfold s_p_behind b_p_behind
    simp only [Rw.enc, nextK]
    cases q : f n with
    | none =>
      have b := p_block_none w kvs n st hw (sees_none hs q)
      simp only [szs, fnM, rawM, seqM, ifM, tvM, truM, binM, unM, appM, consA, nilA, varM, conM, retM, retN, asgM, expM, raiseM, passS, callF, app1, app2, noExc, isExc_d, isExc_c, bindS_ok, bindS_err, bindS_stuck, Res.bind_ok, Res.bind_err, Res.bind_stuck, onBl_bl, andT, orT, notT, andV, orV, notV, tupM, lstM, toDs, toD, asD_d, asD_new, frzW_d, newT, newL, slM, slW, someO, noneO, ixW, addW, subW, mulW, modW, cmpW, negW, lenW, intW, tabW, isNonB, isNonW, isNon_d, List.map_cons, List.map_nil, List.length_cons, List.length_nil, List.replicate, List.append_nil, List.nil_append, List.cons_append, List.getElem?_cons_zero, List.getElem?_cons_succ, List.set_cons_zero, List.set_cons_succ, Nat.reduceAdd, Nat.reduceSub, if_true, if_false, ite_true, ite_false, Bool.not_true, Bool.not_false, Bool.and_true, Bool.and_false, Bool.false_eq_true, reduceIte, fin_same, finE_same, fin_new, atI_0, atI_1, atI_2, eqW_ofs, look_ofs, look_nil, dspC, newDc, inW, Option.isSome_some, Option.isSome_none, itM, forM, items_dl, items_dt, methL, methD, arg0, arg1, arg2, appendW, popW, listW, get_new, set_new, isLst_new, pow109, String.reduceBEq, String.reduceEq, Bool.false_or, Bool.true_or, Bool.or_false, Bool.or_true, hx, b]
    | some io =>
      obtain ⟨i, o⟩ := io
      obtain ⟨rr, hlk⟩ := sees_some hs q
      have b := p_block_some w kvs n _ st hw hlk
      have c := p_called_ok ks i o rr st (by omega) (hf n i o q).2
      simp only [szs, fnM, rawM, seqM, ifM, tvM, truM, binM, unM, appM, consA, nilA, varM, conM, retM, retN, asgM, expM, raiseM, passS, callF, app1, app2, noExc, isExc_d, isExc_c, bindS_ok, bindS_err, bindS_stuck, Res.bind_ok, Res.bind_err, Res.bind_stuck, onBl_bl, andT, orT, notT, andV, orV, notV, tupM, lstM, toDs, toD, asD_d, asD_new, frzW_d, newT, newL, slM, slW, someO, noneO, ixW, addW, subW, mulW, modW, cmpW, negW, lenW, intW, tabW, isNonB, isNonW, isNon_d, List.map_cons, List.map_nil, List.length_cons, List.length_nil, List.replicate, List.append_nil, List.nil_append, List.cons_append, List.getElem?_cons_zero, List.getElem?_cons_succ, List.set_cons_zero, List.set_cons_succ, Nat.reduceAdd, Nat.reduceSub, if_true, if_false, ite_true, ite_false, Bool.not_true, Bool.not_false, Bool.and_true, Bool.and_false, Bool.false_eq_true, reduceIte, fin_same, finE_same, fin_new, atI_0, atI_1, atI_2, eqW_ofs, look_ofs, look_nil, dspC, newDc, inW, Option.isSome_some, Option.isSome_none, itM, forM, items_dl, items_dt, methL, methD, arg0, arg1, arg2, appendW, popW, listW, get_new, set_new, isLst_new, pow109, String.reduceBEq, String.reduceEq, Bool.false_or, Bool.true_or, Bool.or_false, Bool.or_true, hx, b]
      rw [c]
      cases calledK ks i o <;> simp only [szs, fnM, rawM, seqM, ifM, tvM, truM, binM, unM, appM, consA, nilA, varM, conM, retM, retN, asgM, expM, raiseM, passS, callF, app1, app2, noExc, isExc_d, isExc_c, bindS_ok, bindS_err, bindS_stuck, Res.bind_ok, Res.bind_err, Res.bind_stuck, onBl_bl, andT, orT, notT, andV, orV, notV, tupM, lstM, toDs, toD, asD_d, asD_new, frzW_d, newT, newL, slM, slW, someO, noneO, ixW, addW, subW, mulW, modW, cmpW, negW, lenW, intW, tabW, isNonB, isNonW, isNon_d, List.map_cons, List.map_nil, List.length_cons, List.length_nil, List.replicate, List.append_nil, List.nil_append, List.cons_append, List.getElem?_cons_zero, List.getElem?_cons_succ, List.set_cons_zero, List.set_cons_succ, Nat.reduceAdd, Nat.reduceSub, if_true, if_false, ite_true, ite_false, Bool.not_true, Bool.not_false, Bool.and_true, Bool.and_false, Bool.false_eq_true, reduceIte, fin_same, finE_same, fin_new, atI_0, atI_1, atI_2, eqW_ofs, look_ofs, look_nil, dspC, newDc, inW, Option.isSome_some, Option.isSome_none, itM, forM, items_dl, items_dt, methL, methD, arg0, arg1, arg2, appendW, popW, listW, get_new, set_new, isLst_new, pow109, String.reduceBEq, String.reduceEq, Bool.false_or, Bool.true_or, Bool.or_false, Bool.or_true]
  | iff a b =>
    unfold s_p_behind b_p_behind
    simp only [Rw.enc, nextK]
    have e := need_ok ks [some .num] st (by omega)
    have e0 : (.tup (List.map encO [some Kd.num]) : D) = .tup [.str "num"] := rfl
    rw [e0] at e
    cases q : need ks [some .num] with
    | some c =>
      rw [q] at e
      simp only [szs, fnM, rawM, seqM, ifM, tvM, truM, binM, unM, appM, consA, nilA, varM, conM, retM, retN, asgM, expM, raiseM, passS, callF, app1, app2, noExc, isExc_d, isExc_c, bindS_ok, bindS_err, bindS_stuck, Res.bind_ok, Res.bind_err, Res.bind_stuck, onBl_bl, andT, orT, notT, andV, orV, notV, tupM, lstM, toDs, toD, asD_d, asD_new, frzW_d, newT, newL, slM, slW, someO, noneO, ixW, addW, subW, mulW, modW, cmpW, negW, lenW, intW, tabW, isNonB, isNonW, isNon_d, List.map_cons, List.map_nil, List.length_cons, List.length_nil, List.replicate, List.append_nil, List.nil_append, List.cons_append, List.getElem?_cons_zero, List.getElem?_cons_succ, List.set_cons_zero, List.set_cons_succ, Nat.reduceAdd, Nat.reduceSub, if_true, if_false, ite_true, ite_false, Bool.not_true, Bool.not_false, Bool.and_true, Bool.and_false, Bool.false_eq_true, reduceIte, fin_same, finE_same, fin_new, atI_0, atI_1, atI_2, eqW_ofs, look_ofs, look_nil, dspC, newDc, inW, Option.isSome_some, Option.isSome_none, itM, forM, items_dl, items_dt, methL, methD, arg0, arg1, arg2, appendW, popW, listW, get_new, set_new, isLst_new, pow109, String.reduceBEq, String.reduceEq, Bool.false_or, Bool.true_or, Bool.or_false, Bool.or_true, hx, e]
    | none =>
      rw [q] at e
      obtain ⟨us, k0, hks, _⟩ := ktop1 q
      subst hks
      cases qa : f a with
      | none =>
        have ba := p_block_none w kvs a st hw (sees_none hs qa)
        simp only [szs, fnM, rawM, seqM, ifM, tvM, truM, binM, unM, appM, consA, nilA, varM, conM, retM, retN, asgM, expM, raiseM, passS, callF, app1, app2, noExc, isExc_d, isExc_c, bindS_ok, bindS_err, bindS_stuck, Res.bind_ok, Res.bind_err, Res.bind_stuck, onBl_bl, andT, orT, notT, andV, orV, notV, tupM, lstM, toDs, toD, asD_d, asD_new, frzW_d, newT, newL, slM, slW, someO, noneO, ixW, addW, subW, mulW, modW, cmpW, negW, lenW, intW, tabW, isNonB, isNonW, isNon_d, List.map_cons, List.map_nil, List.length_cons, List.length_nil, List.replicate, List.append_nil, List.nil_append, List.cons_append, List.getElem?_cons_zero, List.getElem?_cons_succ, List.set_cons_zero, List.set_cons_succ, Nat.reduceAdd, Nat.reduceSub, if_true, if_false, ite_true, ite_false, Bool.not_true, Bool.not_false, Bool.and_true, Bool.and_false, Bool.false_eq_true, reduceIte, fin_same, finE_same, fin_new, atI_0, atI_1, atI_2, eqW_ofs, look_ofs, look_nil, dspC, newDc, inW, Option.isSome_some, Option.isSome_none, itM, forM, items_dl, items_dt, methL, methD, arg0, arg1, arg2, appendW, popW, listW, get_new, set_new, isLst_new, pow109, String.reduceBEq, String.reduceEq, Bool.false_or, Bool.true_or, Bool.or_false, Bool.or_true, hx, e, ba]
      | some io =>
        obtain ⟨i, o⟩ := io
        obtain ⟨ra, hla⟩ := sees_some hs qa
        have ba := p_block_some w kvs a _ st hw hla
        cases qb : f b with
        | none =>
          have bb := p_block_none w kvs b st hw (sees_none hs qb)
          simp only [szs, fnM, rawM, seqM, ifM, tvM, truM, binM, unM, appM, consA, nilA, varM, conM, retM, retN, asgM, expM, raiseM, passS, callF, app1, app2, noExc, isExc_d, isExc_c, bindS_ok, bindS_err, bindS_stuck, Res.bind_ok, Res.bind_err, Res.bind_stuck, onBl_bl, andT, orT, notT, andV, orV, notV, tupM, lstM, toDs, toD, asD_d, asD_new, frzW_d, newT, newL, slM, slW, someO, noneO, ixW, addW, subW, mulW, modW, cmpW, negW, lenW, intW, tabW, isNonB, isNonW, isNon_d, List.map_cons, List.map_nil, List.length_cons, List.length_nil, List.replicate, List.append_nil, List.nil_append, List.cons_append, List.getElem?_cons_zero, List.getElem?_cons_succ, List.set_cons_zero, List.set_cons_succ, Nat.reduceAdd, Nat.reduceSub, if_true, if_false, ite_true, ite_false, Bool.not_true, Bool.not_false, Bool.and_true, Bool.and_false, Bool.false_eq_true, reduceIte, fin_same, finE_same, fin_new, atI_0, atI_1, atI_2, eqW_ofs, look_ofs, look_nil, dspC, newDc, inW, Option.isSome_some, Option.isSome_none, itM, forM, items_dl, items_dt, methL, methD, arg0, arg1, arg2, appendW, popW, listW, get_new, set_new, isLst_new, pow109, String.reduceBEq, String.reduceEq, Bool.false_or, Bool.true_or, Bool.or_false, Bool.or_true, hx, e, ba, bb]
        | some io' =>
          obtain ⟨i', o'⟩ := io'
          obtain ⟨rb, hlb⟩ := sees_some hs qb
          have bb := p_block_some w kvs b _ st hw hlb
          have c := p_called_ok us i o ra st (by simp at hl; omega) (hf a i o qa).2
          have sz : (encK us).length ≤ sizeLine := small (by simp at hl ⊢; omega)
          by_cases h1 : i = i'
          · by_cases h2 : o = o'
            · subst h1 h2
              simp only [szs, fnM, rawM, seqM, ifM, tvM, truM, binM, unM, appM, consA, nilA, varM, conM, retM, retN, asgM, expM, raiseM, passS, callF, app1, app2, noExc, isExc_d, isExc_c, bindS_ok, bindS_err, bindS_stuck, Res.bind_ok, Res.bind_err, Res.bind_stuck, onBl_bl, andT, orT, notT, andV, orV, notV, tupM, lstM, toDs, toD, asD_d, asD_new, frzW_d, newT, newL, slM, slW, someO, noneO, ixW, addW, subW, mulW, modW, cmpW, negW, lenW, intW, tabW, isNonB, isNonW, isNon_d, List.map_cons, List.map_nil, List.length_cons, List.length_nil, List.replicate, List.append_nil, List.nil_append, List.cons_append, List.getElem?_cons_zero, List.getElem?_cons_succ, List.set_cons_zero, List.set_cons_succ, Nat.reduceAdd, Nat.reduceSub, if_true, if_false, ite_true, ite_false, Bool.not_true, Bool.not_false, Bool.and_true, Bool.and_false, Bool.false_eq_true, reduceIte, fin_same, finE_same, fin_new, atI_0, atI_1, atI_2, eqW_ofs, look_ofs, look_nil, dspC, newDc, inW, Option.isSome_some, Option.isSome_none, itM, forM, items_dl, items_dt, methL, methD, arg0, arg1, arg2, appendW, popW, listW, get_new, set_new, isLst_new, pow109, String.reduceBEq, String.reduceEq, Bool.false_or, Bool.true_or, Bool.or_false, Bool.or_true, hx, e, ba, bb, eqW_K, decide_true, cut1K, sz, Int.reduceNeg, c, and_self, List.dropLast_concat]
              cases calledK us i o <;> simp only [szs, fnM, rawM, seqM, ifM, tvM, truM, binM, unM, appM, consA, nilA, varM, conM, retM, retN, asgM, expM, raiseM, passS, callF, app1, app2, noExc, isExc_d, isExc_c, bindS_ok, bindS_err, bindS_stuck, Res.bind_ok, Res.bind_err, Res.bind_stuck, onBl_bl, andT, orT, notT, andV, orV, notV, tupM, lstM, toDs, toD, asD_d, asD_new, frzW_d, newT, newL, slM, slW, someO, noneO, ixW, addW, subW, mulW, modW, cmpW, negW, lenW, intW, tabW, isNonB, isNonW, isNon_d, List.map_cons, List.map_nil, List.length_cons, List.length_nil, List.replicate, List.append_nil, List.nil_append, List.cons_append, List.getElem?_cons_zero, List.getElem?_cons_succ, List.set_cons_zero, List.set_cons_succ, Nat.reduceAdd, Nat.reduceSub, if_true, if_false, ite_true, ite_false, Bool.not_true, Bool.not_false, Bool.and_true, Bool.and_false, Bool.false_eq_true, reduceIte, fin_same, finE_same, fin_new, atI_0, atI_1, atI_2, eqW_ofs, look_ofs, look_nil, dspC, newDc, inW, Option.isSome_some, Option.isSome_none, itM, forM, items_dl, items_dt, methL, methD, arg0, arg1, arg2, appendW, popW, listW, get_new, set_new, isLst_new, pow109, String.reduceBEq, String.reduceEq, Bool.false_or, Bool.true_or, Bool.or_false, Bool.or_true]
            · simp only [szs, fnM, rawM, seqM, ifM, tvM, truM, binM, unM, appM, consA, nilA, varM, conM, retM, retN, asgM, expM, raiseM, passS, callF, app1, app2, noExc, isExc_d, isExc_c, bindS_ok, bindS_err, bindS_stuck, Res.bind_ok, Res.bind_err, Res.bind_stuck, onBl_bl, andT, orT, notT, andV, orV, notV, tupM, lstM, toDs, toD, asD_d, asD_new, frzW_d, newT, newL, slM, slW, someO, noneO, ixW, addW, subW, mulW, modW, cmpW, negW, lenW, intW, tabW, isNonB, isNonW, isNon_d, List.map_cons, List.map_nil, List.length_cons, List.length_nil, List.replicate, List.append_nil, List.nil_append, List.cons_append, List.getElem?_cons_zero, List.getElem?_cons_succ, List.set_cons_zero, List.set_cons_succ, Nat.reduceAdd, Nat.reduceSub, if_true, if_false, ite_true, ite_false, Bool.not_true, Bool.not_false, Bool.and_true, Bool.and_false, Bool.false_eq_true, reduceIte, fin_same, finE_same, fin_new, atI_0, atI_1, atI_2, eqW_ofs, look_ofs, look_nil, dspC, newDc, inW, Option.isSome_some, Option.isSome_none, itM, forM, items_dl, items_dt, methL, methD, arg0, arg1, arg2, appendW, popW, listW, get_new, set_new, isLst_new, pow109, String.reduceBEq, String.reduceEq, Bool.false_or, Bool.true_or, Bool.or_false, Bool.or_true, hx, e, ba, bb, eqW_K, h1, h2, decide_true, decide_false, and_false]
          · simp only [szs, fnM, rawM, seqM, ifM, tvM, truM, binM, unM, appM, consA, nilA, varM, conM, retM, retN, asgM, expM, raiseM, passS, callF, app1, app2, noExc, isExc_d, isExc_c, bindS_ok, bindS_err, bindS_stuck, Res.bind_ok, Res.bind_err, Res.bind_stuck, onBl_bl, andT, orT, notT, andV, orV, notV, tupM, lstM, toDs, toD, asD_d, asD_new, frzW_d, newT, newL, slM, slW, someO, noneO, ixW, addW, subW, mulW, modW, cmpW, negW, lenW, intW, tabW, isNonB, isNonW, isNon_d, List.map_cons, List.map_nil, List.length_cons, List.length_nil, List.replicate, List.append_nil, List.nil_append, List.cons_append, List.getElem?_cons_zero, List.getElem?_cons_succ, List.set_cons_zero, List.set_cons_succ, Nat.reduceAdd, Nat.reduceSub, if_true, if_false, ite_true, ite_false, Bool.not_true, Bool.not_false, Bool.and_true, Bool.and_false, Bool.false_eq_true, reduceIte, fin_same, finE_same, fin_new, atI_0, atI_1, atI_2, eqW_ofs, look_ofs, look_nil, dspC, newDc, inW, Option.isSome_some, Option.isSome_none, itM, forM, items_dl, items_dt, methL, methD, arg0, arg1, arg2, appendW, popW, listW, get_new, set_new, isLst_new, pow109, String.reduceBEq, String.reduceEq, Bool.false_or, Bool.true_or, Bool.or_false, Bool.or_true, hx, e, ba, bb, eqW_K, h1, decide_false, false_and]
def excS : Exc → String | .empty => "empty" | .kind => "kind" | .block => "block" | .apart => "apart" | .dry => "dry"
theorem nextK_dry (f : Tl) (ks : List Kd) (r : Rw) : nextK f ks r ≠ .error .dry := by
  have nd : ∀ ks ws, need ks ws ≠ some .dry := fun ks ws h => by rcases needS_eq ks ws with q | q | q <;> (rw [q] at h; cases h)
  have cd : ∀ ks i o, calledK ks i o ≠ .error .dry := fun ks i o h => by
    unfold calledK at h
    split at h
    · rename_i e he; injection h with h; subst h; exact nd _ _ he
    · cases h
  intro h
  cases r with
  | plain r =>
    simp only [nextK] at h
    split at h
    · rename_i e he; injection h with h; subst h; exact nd _ _ he
    · cases h
  | call n =>
    simp only [nextK] at h
    split at h
    · cases h
    · exact cd _ _ _ h
  | iff a b =>
    simp only [nextK] at h
    split at h
    · rename_i e he; injection h with h; subst h; exact nd _ _ he
    · split at h
      · split at h
        · exact cd _ _ _ h
        · cases h
      · cases h
end Py

namespace Py
open PySem L2
/-! ### dicts over any values -/
def putA {α : Type} (kvs : List (Str × α)) (k : Str) (v : α) : List (Str × α) :=
  if (kvs.any fun kv => decide (kv.1 = k)) = true then kvs.map (fun kv => if kv.1 = k then (kv.1, v) else kv) else kvs ++ [(k, v)]
def lookA {α : Type} (k : Str) : List (Str × α) → Option α
  | [] => none
  | (k', v) :: r => if k' = k then some v else lookA k r
theorem putD_map {α : Type} (f : α → D) (kvs : List (Str × α)) (k : Str) (v : α) : putD (kvs.map fun p => (p.1, f p.2)) k (f v) = (putA kvs k v).map fun p => (p.1, f p.2) := by
  unfold putD putA
  rw [List.any_map]
  show (if (kvs.any fun kv => decide (kv.1 = k)) = true then _ else _) = _
  by_cases h : (kvs.any fun kv => decide (kv.1 = k)) = true
  · rw [if_pos h, if_pos h, List.map_map, List.map_map]
    refine List.map_congr_left fun p _ => ?_
    show (if p.1 = k then (p.1, f v) else (p.1, f p.2)) = _
    by_cases q : p.1 = k
    · rw [if_pos q]; simp [q]
    · rw [if_neg q]; simp [q]
  · rw [if_neg h, if_neg h]; simp
theorem look_map {α : Type} (f : α → D) (k : Str) : ∀ (kvs : List (Str × α)), look k (kvs.map fun p => (p.1, f p.2)) = (lookA k kvs).map f
  | [] => rfl
  | (k', v) :: r => by
    show (if k' = k then some (f v) else look k (r.map fun p => (p.1, f p.2))) = Option.map f (if k' = k then some v else lookA k r)
    by_cases h : k' = k
    · rw [if_pos h, if_pos h]; rfl
    · rw [if_neg h, if_neg h]; exact look_map f k r
theorem putA_keys {α : Type} (kvs : List (Str × α)) (k : Str) (v : α) : (putA kvs k v).map (·.1) = if (kvs.any fun kv => decide (kv.1 = k)) = true then kvs.map (·.1) else kvs.map (·.1) ++ [k] := by
  unfold putA
  by_cases h : (kvs.any fun kv => decide (kv.1 = k)) = true
  · rw [if_pos h, if_pos h, List.map_map]
    refine List.map_congr_left fun p _ => ?_
    show (if p.1 = k then (p.1, v) else p).1 = p.1
    split <;> rfl
  · rw [if_neg h, if_neg h]; simp
theorem putA_nodup {α : Type} {kvs : List (Str × α)} {k : Str} {v : α} (h : (kvs.map (·.1)).Nodup) : ((putA kvs k v).map (·.1)).Nodup := by
  rw [putA_keys]
  split
  · exact h
  · rename_i q
    refine List.nodup_append.mpr ⟨h, by simp, ?_⟩
    intro a ha b hb e
    rw [List.mem_singleton] at hb
    subst hb e
    obtain ⟨p, hp, e⟩ := List.mem_map.mp ha
    exact q (List.any_eq_true.mpr ⟨p, hp, by simpa using e⟩)
theorem putA_mem {α : Type} {kvs : List (Str × α)} {k : Str} {v : α} {p : Str × α} (h : p ∈ putA kvs k v) : p ∈ kvs ∨ p = (k, v) := by
  unfold putA at h
  split at h
  · obtain ⟨q, hq, e⟩ := List.mem_map.mp h
    split at e
    · rename_i ek; subst e; right; rw [ek]
    · subst e; exact .inl hq
  · rcases List.mem_append.mp h with q | q
    · exact .inl q
    · exact .inr (List.mem_singleton.mp q)
theorem lookA_mem {α : Type} {k : Str} {v : α} : ∀ {kvs : List (Str × α)}, lookA k kvs = some v → (k, v) ∈ kvs
  | (k', u) :: r, h => by
    replace h : (if k' = k then some u else lookA k r) = some v := h
    split at h
    · rename_i e; cases h; subst e; exact List.mem_cons_self
    · exact List.mem_cons_of_mem _ (lookA_mem h)
theorem lookA_of {α : Type} {k : Str} {v : α} : ∀ {kvs : List (Str × α)}, (kvs.map (·.1)).Nodup → (k, v) ∈ kvs → lookA k kvs = some v
  | (k', u) :: r, hn, h => by
    show (if k' = k then some u else lookA k r) = some v
    simp only [List.map_cons, List.nodup_cons] at hn
    rcases List.mem_cons.mp h with e | h
    · cases e; rw [if_pos rfl]
    · rw [if_neg (fun e => hn.1 (by rw [e]; exact List.mem_map.mpr ⟨_, h, rfl⟩))]
      exact lookA_of hn.2 h
/-! ### what is told of the blocks -/
abbrev Td := List (Str × (List Kd × List Kd))
abbrev encT (r : List D) (P : Td) : List (Str × D) := P.map fun p => (p.1, .tup (.tup (encK p.2.1) :: .tup (encK p.2.2) :: r))
structure TdOk (P : Td) : Prop where
  nd : (P.map (·.1)).Nodup
  nm : ∀ p ∈ P, NmOk p.1
  sz : ∀ p ∈ P, p.2.1.length ≤ 60 ∧ p.2.2.length ≤ 60
theorem TdOk.small {P : Td} (h : TdOk P) : Small (fun n => lookA n P) := fun n i o e => h.sz _ (lookA_mem e)
theorem TdOk.put {P : Td} {n : Str} {i o : List Kd} (h : TdOk P) (hn : NmOk n) (hi : i.length ≤ 60) (ho : o.length ≤ 60) : TdOk (putA P n (i, o)) where
  nd := putA_nodup h.nd
  nm p hp := by
    rcases putA_mem hp with q | q
    · exact h.nm p q
    · subst q; exact hn
  sz p hp := by
    rcases putA_mem hp with q | q
    · exact h.sz p q
    · subst q; exact ⟨hi, ho⟩
end Py

namespace Py
open PySem L2
/-- what the local dict holds, the tape -/
abbrev PS (st : Store) (k : Nat) (r : List D) (P : Td) (t : Int) : Store := (st ++ [Cell.dct (encT r P)]).set k (tc t)
/-- a function that draws kinds -/
def KindsOk (F : Fn) : Prop := ∀ (ns : List Int) (k : Nat) (t : Int) (st : Store), k < st.length → 0 ≤ t → t ≤ 800000 → ∃ (ks : List Kd) (t' : Int), ks.length ≤ 60 ∧ t ≤ t' ∧ t' ≤ t + 102 ∧ F [.d (.scr ns), .c k] (st.set k (tc t)) = .ok (.d (.tup (encK ks))) (st.set k (tc t'))
structure ProgPar (F : Fn) (R : M (List W)) (V : M W) (r : List D) : Prop where
  kinds : KindsOk F
  rest : ∃ ws, (∀ env st, R env st = .ok ws st) ∧ ∀ st, toDs ws st = .ok r st
  len : r.length ≤ 2
  val : ∀ (env : Env) (st : Store) (i o : List Kd), env[4]? = some (some (.d (.tup (.tup (encK i) :: .tup (encK o) :: r)))) → V env st = .ok (.d (.tup (.tup (encK i) :: .tup (encK o) :: r))) st
section
variable {st : Store} {k : Nat} (hk : k < st.length) (ns : List Int) {F : Fn} {R : M (List W)} {V : M W} {r : List D} (par : ProgPar F R V r)
include hk
theorem pw (c : Cell) (t : Int) (n m : Int) (hn : 0 ≤ m) (hm : m ≤ 1000) : ∃ s, PyData.strOk s = true ∧ s.length = m.toNat ∧ s_words [.d (.int n), .d (.int m)] ((st ++ [c]).set k (tc t)) = .ok (.d (.str s)) ((st ++ [c]).set k (tc t)) := by
  obtain ⟨s, h1, h2, h3⟩ := words_ok n m.toNat ((st ++ [c]).set k (tc t)) (by omega)
  rw [Int.toNat_of_nonneg hn] at h3
  exact ⟨s, h1, h2, h3⟩
include par
end
end Py

namespace Py
open PySem L2
/-- calls and ifs: the name that goes first -/
def Rw.first : Rw → Option Str
  | .plain _ => none
  | .call n => some n
  | .iff a _ => some a
section
variable {st : Store} {k : Nat} (hk : k < st.length) (ns : List Int)
include hk
end
end Py

namespace Py
open PySem L2
mutual
theorem eqv_refl : ∀ (d : D), d.fine = true → d.eqv d = true
  | .non, _ => rfl
  | .bl b, _ => by simp [D.eqv]
  | .int i, _ => by simp [D.eqv]
  | .str s, _ => by simp [D.eqv]
  | .tup xs, h => eqvL_refl2 xs h
  | .lst xs, h => eqvL_refl2 xs h
  | .dct _, h => by cases h
  | .scr _, h => by cases h
theorem eqvL_refl2 : ∀ (ds : List D), fineL ds = true → eqvL ds ds = true
  | [], _ => rfl
  | d :: ds, h => by
    have h' : (d.fine && fineL ds) = true := h
    rw [Bool.and_eq_true] at h'
    show (d.eqv d && eqvL ds ds) = true
    rw [eqv_refl d h'.1, eqvL_refl2 ds h'.2]; rfl
end
theorem putA_new {α : Type} {kvs : List (Str × α)} {k : Str} {v : α} (h : ∀ p ∈ kvs, p.1 ≠ k) : putA kvs k v = kvs ++ [(k, v)] := by
  unfold putA
  rw [if_neg]
  intro q
  obtain ⟨p, hp, e⟩ := List.any_eq_true.mp q
  exact h p hp (by simpa using e)
abbrev encS (l : List Str) : List D := l.map .str
end Py

namespace Py
open PySem L2
theorem asg_ok {i : Nat} {e : M W} {env : Env} {st s : Store} {w : W} (h : e env st = .ok w s) : asgM i e env st = .nx (env.set i (some w)) s := by
  unfold asgM; rw [h]; rfl
theorem fr_ok {a : M W} {env : Env} {st s : Store} {k : Nat} {d : D} (h : a env st = .ok (.c k) s) (hd : asD s (.c k) = some d) : frM a env st = .ok (.d d) (s.set k (.frz d)) := by
  unfold frM; rw [h, Res.bind_ok]; unfold toD; rw [hd]; rfl
theorem draw0 (ns : List Int) (t m : Int) (tl : Store) (h0 : 0 ≤ t) (h1 : t ≤ 1000000) (hm : 0 < m) : ∃ v, 0 ≤ v ∧ v < m ∧ s_draw [.d (.scr ns), .c 0, .d (.int m)] (tc t :: tl) = .ok (.d (.int v)) (tc (t + 1) :: tl) :=
  draw2 ns 0 t m (tc t :: tl) (by simp) h0 h1 hm
theorem fin_nil (S' : Store) (x : D) : fin [] (.d x) S' = .ok (.d x) [] := by
  unfold fin
  rw [if_pos]
  · rfl
  · exact ⟨Nat.zero_le _, fun k fs hk _ => absurd hk (Nat.not_lt_zero _)⟩
end Py

namespace Py
open PySem L2
theorem isi_ss (s : Str) (st : Store) : isi1 "str" (.d (.str s)) st = .ok (.d (.bl true)) st := by
  simp [isi1, tyOf, isiOne]
theorem calledK_len {ks i o ks' : List Kd} (h : calledK ks i o = .ok ks') : ks'.length ≤ ks.length + o.length := by
  unfold calledK at h
  split at h
  · cases h
  · injection h with h; subst h; rw [List.length_append, List.length_take]; omega
theorem plainK_len (r : Row) (ks : List Kd) : (plainK r ks).length ≤ ks.length + 1 := by
  cases r with
  | num _ => simp [plainK]
  | text _ => simp [plainK]
  | copy _ => simp [plainK]
  | op o =>
    cases o with
    | swap =>
      have e : ∃ l, ks.reverse = l := ⟨_, rfl⟩
      obtain ⟨l, e⟩ := e
      have hl : ks.length = l.length := by rw [← e, List.length_reverse]
      unfold plainK
      rw [e]
      match l, hl with
      | [], hl => simp
      | [_], hl => simp
      | b :: a :: us, hl => simp at hl ⊢; omega
    | _ => simp [plainK, Op.puts] <;> omega
end Py

namespace Py
open PySem L2
/-! ### programs, trails -/
structure Blk where
  ins : List Kd
  outs : List Kd
  rows : List Rw
abbrev Prg := List (Str × Blk)
abbrev encR (rs : List Rw) : List D := rs.map Rw.enc
def Blk.enc (b : Blk) : D := .tup [.tup (encK b.ins), .tup (encK b.outs), .lst (encR b.rows)]
abbrev encP (P : Prg) : List (Str × D) := P.map fun p => (p.1, p.2.enc)
def telP (P : Prg) : Tl := fun n => (lookA n P).map fun b => (b.ins, b.outs)
structure BlkOk (b : Blk) : Prop where
  si : b.ins.length ≤ 60
  so : b.outs.length ≤ 60
  sr : b.rows.length ≤ 3000
  ro : ∀ r ∈ b.rows, r.ok
structure PrgOk (P : Prg) : Prop where
  nd : (P.map (·.1)).Nodup
  nm : ∀ p ∈ P, NmOk p.1
  bl : ∀ p ∈ P, BlkOk p.2
theorem lookP (P : Prg) (n : Str) : look n (encP P) = (lookA n P).map Blk.enc := look_map Blk.enc n P
theorem sees_P (P : Prg) : Sees (encP P) (telP P) := fun n => by
  rw [lookP]
  unfold telP
  cases lookA n P with
  | none => rfl
  | some b => exact ⟨_, rfl⟩
theorem PrgOk.small {P : Prg} (h : PrgOk P) : Small (telP P) := fun n i o e => by
  unfold telP at e
  cases q : lookA n P with
  | none => rw [q] at e; cases e
  | some b =>
    rw [q] at e
    cases e
    have := h.bl _ (lookA_mem q)
    exact ⟨this.si, this.so⟩
theorem PrgOk.put {P : Prg} {n : Str} {b : Blk} (h : PrgOk P) (hn : NmOk n) (hb : BlkOk b) : PrgOk (putA P n b) where
  nd := putA_nodup h.nd
  nm p hp := by
    rcases putA_mem hp with q | q
    · exact h.nm p q
    · subst q; exact hn
  bl p hp := by
    rcases putA_mem hp with q | q
    · exact h.bl p q
    · subst q; exact hb
theorem putP (P : Prg) (n : Str) (b : Blk) : putD (encP P) n b.enc = encP (putA P n b) := putD_map Blk.enc P n b
/-- the kinds ahead of each row and behind the last; the refusal -/
def trailK (f : Tl) (ks : List Kd) : List Rw → List (List Kd) × Option Exc
  | [] => ([ks], none)
  | r :: rs => match nextK f ks r with
    | .error e => ([ks], some e)
    | .ok k' => (ks :: (trailK f k' rs).1, (trailK f k' rs).2)
def runK (f : Tl) (ks : List Kd) : List Rw → Option (List Kd)
  | [] => some ks
  | r :: rs => match nextK f ks r with
    | .error _ => none
    | .ok k' => runK f k' rs
theorem trailK_run {f : Tl} : ∀ {rs : List Rw} {ks k' : List Kd}, runK f ks rs = some k' → (trailK f ks rs).2 = none ∧ (trailK f ks rs).1.getLast? = some k'
  | [], _, _, h => by cases h; exact ⟨rfl, rfl⟩
  | a :: as, ks, k', h => by
    simp only [runK, trailK] at h ⊢
    cases q : nextK f ks a with
    | error e => rw [q] at h; cases h
    | ok k2 =>
      rw [q] at h
      obtain ⟨h1, h2⟩ := trailK_run h
      refine ⟨h1, ?_⟩
      simp only
      cases e : (trailK f k2 as).1 with
      | nil => rw [e] at h2; cases h2
      | cons x xs => rw [e] at h2; rw [List.getLast?_cons_cons]; exact h2
theorem trailK_ne (f : Tl) (ks : List Kd) (rs : List Rw) : (trailK f ks rs).1 ≠ [] := by
  cases rs with
  | nil => simp [trailK]
  | cons r rs => simp only [trailK]; cases nextK f ks r <;> simp
theorem nextK_len2 {f : Tl} {ks : List Kd} {r : Rw} {ks' : List Kd} (hf : Small f) (h : nextK f ks r = .ok ks') : ks'.length ≤ ks.length + 60 := by
  cases r with
  | plain r =>
    simp only [nextK] at h
    split at h
    · cases h
    · injection h with h; subst h; have := plainK_len r ks; omega
  | call n =>
    simp only [nextK] at h
    split at h
    · cases h
    · rename_i i o e
      have := calledK_len h
      have := (hf _ _ _ e).2
      omega
  | iff a b =>
    simp only [nextK] at h
    split at h
    · cases h
    · split at h
      · rename_i i o i' o' e e'
        split at h
        · have := calledK_len h
          have := (hf _ _ _ e).2
          have : ks.dropLast.length ≤ ks.length := by simp
          omega
        · cases h
      · cases h
theorem trailK_len (f : Tl) : ∀ (rs : List Rw) (ks : List Kd), (trailK f ks rs).1.length ≤ rs.length + 1
  | [], ks => by simp [trailK]
  | r :: rs, ks => by
    simp only [trailK]
    cases nextK f ks r with
    | error e => simp
    | ok k' => have := trailK_len f rs k'; simp; omega
/-- a block's way: its trail, and the word that ends it -/
def endsK (b : Blk) (t : List (List Kd) × Option Exc) : String := match t.2 with
  | some e => excS e
  | none => if t.1.getLast? = some b.outs then "" else "end"
def wayK (f : Tl) (b : Blk) : List (List Kd) × String := ((trailK f b.ins b.rows).1, endsK b (trailK f b.ins b.rows))
def GoodB (f : Tl) (b : Blk) : Prop := runK f b.ins b.rows = some b.outs
theorem GoodB.way {f : Tl} {b : Blk} (h : GoodB f b) : (wayK f b).2 = "" := by
  obtain ⟨h1, h2⟩ := trailK_run h
  unfold wayK endsK
  simp only [h1, h2, if_true]
theorem seq_ret {a b : MS} {env : Env} {st s : Store} {w : W} (h : a env st = .ret w s) : seqM a b env st = .ret w s := by
  unfold seqM; rw [h]
theorem if_t {c : M Bool} {a b : MS} {env : Env} {st s : Store} (h : c env st = .ok true s) : ifM c a b env st = a env s := by
  unfold ifM; rw [h]; rfl
theorem if_f {c : M Bool} {a b : MS} {env : Env} {st s : Store} (h : c env st = .ok false s) : ifM c a b env st = b env s := by
  unfold ifM; rw [h]; rfl
theorem bin_ok {g : W → W → Store → Res W} {a b : M W} {env : Env} {st s1 s2 : Store} {x y : W} (h1 : a env st = .ok x s1) (h2 : b env s1 = .ok y s2) : binM g a b env st = g x y s2 := by
  unfold binM; rw [h1, Res.bind_ok, h2]; rfl
theorem lcm_ok {it : M (List D)} {i : Nat} {c : M Bool} {e : M W} {env : Env} {st s1 s2 : Store} {xs ys : List D} (h1 : it env st = .ok xs s1) (h2 : lcLoop i c e xs [] env s1 = .ok ys s2) (h3 : ys.length ≤ sizeLine) : lcM false it i c e env st = .ok (.d (.lst ys)) s2 := by
  unfold lcM; rw [h1, Res.bind_ok, h2, Res.bind_ok]; unfold newL; rw [if_pos h3]; rfl
theorem need_nil (ks : List Kd) : need ks [] = none := by
  unfold need
  rw [if_neg (by simp)]
  simp
theorem need_app (ks i : List Kd) : need (ks ++ i) (i.map some) = none := by
  unfold need
  rw [List.length_append, List.length_map, if_neg (by omega), show ks.length + i.length - i.length = ks.length by omega, List.drop_left]
  rw [if_neg]
  intro h
  obtain ⟨p, hp, hb⟩ := List.any_eq_true.mp h
  rw [List.zip_map_right] at hp
  obtain ⟨q, hq, rfl⟩ := List.mem_map.mp hp
  have : q.1 = q.2 := by
    have := List.mem_iff_getElem.mp hq
    obtain ⟨j, hj, e⟩ := this
    rw [List.getElem_zip] at e
    rw [← e]
  obtain ⟨a, b⟩ := q
  simp only at this
  subst this
  simp [bad, Prod.map] at hb
theorem called_app (ks i o : List Kd) : calledK (ks ++ i) i o = .ok (ks ++ o) := by
  unfold calledK
  rw [need_app]
  simp
end Py

namespace Py
open PySem L2
section
variable {st : Store} {k : Nat} (hk : k < st.length) (ns : List Int) {T : Td} (hT : TdOk T)
include hk hT
end
end Py

namespace Py
open PySem L2
section
variable {st : Store} {k : Nat} (hk : k < st.length) (ns : List Int) {T : Td} (hT : TdOk T)
include hk hT
end
theorem fin_dat {st e : Store} {k : Nat} {t t' : Int} {x : D} (hk : k < st.length) : fin (st.set k (tc t)) (.d x) ((st ++ e).set k (tc t')) = .ok (.d x) (st.set k (tc t')) := by
  have e1 : (st ++ e).set k (tc t') = st.set k (tc t') ++ e := by rw [List.set_append_left _ _ hk]
  unfold fin
  rw [if_pos]
  · simp only [List.length_set]
    rw [e1, List.take_left' (by simp)]
  · refine ⟨by rw [List.length_set, List.length_set, List.length_append]; omega, fun i fs hi h => ?_⟩
    rw [List.length_set] at hi
    rw [List.getElem?_set] at h ⊢
    split at h
    · split at h <;> cases h
    · rename_i hne
      rw [if_neg hne]
      rwa [List.getElem?_append_left hi] at h
section
variable {st : Store} {k : Nat} (hk : k < st.length) (ns : List Int)
include hk
end
end Py

namespace Py
open PySem L2
section
variable {st : Store} {k : Nat} (hk : k < st.length) (ns : List Int) {T : Td} (hT : TdOk T)
include hk
include hT
end
end Py

namespace Py
open PySem L2
theorem whileM_succ (c : M Bool) (b : MS) (n : Nat) (env : Env) (st : Store) : whileM c b (n + 1) env st = bindS (c env st) env fun t s1 => if t = true then (match b env s1 with
    | .nx env' st' => whileM c b n env' st'
    | r => r) else .nx env s1 := rfl
section
variable {st : Store} {k : Nat} (hk : k < st.length) (ns : List Int) {T : Td} (hT : TdOk T)
include hk hT
end
end Py

namespace Py
open PySem L2
section
variable {st : Store} {k : Nat} (hk : k < st.length) (ns : List Int) {T : Td} (hT : TdOk T)
include hk hT
end
end Py

namespace Py
open PySem L2
section
variable {st : Store} {k : Nat} (hk : k < st.length) (ns : List Int) {T : Td} (hT : TdOk T)
include hk
include hT
end
/-- a good program -/
structure GoodP (P : Prg) : Prop where
  ok : PrgOk P
  lo : 1 ≤ P.length
  hi : P.length ≤ 12
  rw : ∀ p ∈ P, p.2.rows.length ≤ 800
  good : ∀ p ∈ P, GoodB (telP P) p.2
end Py

namespace Py
open PySem L2
end Py

namespace Py
open PySem L2
/-- what a changed program still keeps -/
structure SomeP (P : Prg) : Prop where
  ok : PrgOk P
  lo : 1 ≤ P.length
  hi : P.length ≤ 12
end Py

namespace Py
open PySem L2
/-! ### a block's way, as the law goes it -/
abbrev encKK (l : List (List Kd)) : List D := l.map fun ks => .tup (encK ks)
theorem last_KK (l : List (List Kd)) (ks : List Kd) : atI (encKK (l ++ [ks])) (-1) = some (.tup (encK ks)) := by
  have := atI_neg (encKK (l ++ [ks])) 1 (by decide) (by simp)
  rw [show (-((1 : Nat) : Int)) = -1 from rfl] at this
  rw [this]
  simp
theorem trail_last {f : Tl} {ks : List Kd} {rs : List Rw} : ∃ l k', (trailK f ks rs).1 = l ++ [k'] ∧ (trailK f ks rs).1.getLast? = some k' := by
  have := trailK_ne f ks rs
  refine ⟨(trailK f ks rs).1.dropLast, (trailK f ks rs).1.getLast this, (List.dropLast_concat_getLast this).symm, List.getLast?_eq_some_getLast this⟩
theorem fin_grow (st : Store) (x : D) (c : Cell) (hc : ∀ fs, c ≠ .obj fs) : fin st (.d x) (st ++ [c]) = .ok (.d x) st := by
  unfold fin
  rw [if_pos]
  · simp
  · exact ⟨by simp, fun k fs hk h => by rwa [List.getElem?_append_left hk] at h⟩
end Py

namespace Py
open PySem L2
noncomputable abbrev wentB : MS := (tryM (expM (methL (arg1 appendW) (varM 5) (consA (callF s_p_behind (consA (varM 0) (consA (binM ixW (varM 5) (unM negW (conM (.int 1)))) (consA (varM 6) nilA)))) nilA))) [([.empty], (retM (tupM (consA (varM 5) (consA (conM (.str "empty")) nilA))))), ([.kind], (retM (tupM (consA (varM 5) (consA (conM (.str "kind")) nilA))))), ([.block], (retM (tupM (consA (varM 5) (consA (conM (.str "block")) nilA))))), ([.apart], (retM (tupM (consA (varM 5) (consA (conM (.str "apart")) nilA)))))])
theorem went_loop (w : W) (kvs : List (Str × D)) (f : Tl) (st : Store) (hw : asD st w = some (.dct kvs)) (hs : Sees kvs f) (hf : Small f) (x1 x2 x3 x4 : Option W) : ∀ (rs : List Rw) (l : List (List Kd)) (ks : List Kd) (x6 : Option W), (∀ r ∈ rs, r.ok) → ks.length + 60 * rs.length ≤ 300000 → l.length + rs.length ≤ 800000 →
    ∃ y6, loopS (.name 6) wentB (encR rs) [some w, x1, x2, x3, x4, some (.c st.length), x6] (st ++ [.lst (encKK (l ++ [ks]))])
      = match (trailK f ks rs).2 with
        | some e => .ret (.d (.tup [.lst (encKK (l ++ (trailK f ks rs).1)), .str (Str.ofString (excS e))])) (st ++ [.frz (.lst (encKK (l ++ (trailK f ks rs).1)))])
        | none => .nx [some w, x1, x2, x3, x4, some (.c st.length), y6] (st ++ [.lst (encKK (l ++ (trailK f ks rs).1))])
  | [], l, ks, x6, _, _, _ => ⟨x6, rfl⟩
  | r :: rs, l, ks, x6, hr, hl, hll => by
    have hx : w.isExc = false := noExc_of hw
    have hw2 := asD_app hw [Cell.lst (encKK (l ++ [ks]))]
    simp only [List.length_cons] at hl hll
    have en := p_behind_ok w kvs f ks r (st ++ [.lst (encKK (l ++ [ks]))]) hw2 hs hf (hr r List.mem_cons_self) (by omega)
    cases q : nextK f ks r with
    | error e =>
      rw [q] at en
      refine ⟨none, ?_⟩
      have e2 : (trailK f ks (r :: rs)) = ([ks], some e) := by simp only [trailK, q]
      rw [e2]
      simp only
      refine loopS_ret rfl ?_
      have hfz : frzW (.c st.length) (.lst (encKK (l ++ [ks]))) (st ++ [.lst (encKK (l ++ [ks]))]) = st ++ [.frz (.lst (encKK (l ++ [ks])))] := by
        show (st ++ [Cell.lst (encKK (l ++ [ks]))]).set st.length _ = _
        rw [set_new]
      have eB : expM (methL (arg1 appendW) (varM 5) (consA (callF s_p_behind (consA (varM 0) (consA (binM ixW (varM 5) (unM negW (conM (.int 1)))) (consA (varM 6) nilA)))) nilA)) [some w, x1, x2, x3, x4, some (.c st.length), some (.d r.enc)] (st ++ [.lst (encKK (l ++ [ks]))])
          = .err e [some w, x1, x2, x3, x4, some (.c st.length), some (.d r.enc)] (st ++ [.lst (encKK (l ++ [ks]))]) := by
        simp only [szs, fnM, rawM, seqM, ifM, tvM, truM, binM, unM, appM, consA, nilA, varM, conM, retM, retN, asgM, expM, raiseM, passS, callF, app1, app2, noExc, isExc_d, isExc_c, bindS_ok, bindS_err, bindS_stuck, Res.bind_ok, Res.bind_err, Res.bind_stuck, onBl_bl, andT, orT, notT, andV, orV, notV, tupM, lstM, toDs, toD, asD_d, asD_new, frzW_d, newT, newL, slM, slW, someO, noneO, ixW, addW, subW, mulW, modW, cmpW, negW, lenW, intW, tabW, isNonB, isNonW, isNon_d, List.map_cons, List.map_nil, List.length_cons, List.length_nil, List.replicate, List.append_nil, List.nil_append, List.cons_append, List.getElem?_cons_zero, List.getElem?_cons_succ, List.set_cons_zero, List.set_cons_succ, Nat.reduceAdd, Nat.reduceSub, if_true, if_false, ite_true, ite_false, Bool.not_true, Bool.not_false, Bool.and_true, Bool.and_false, Bool.false_eq_true, reduceIte, fin_same, finE_same, fin_new, atI_0, atI_1, atI_2, eqW_ofs, look_ofs, look_nil, dspC, newDc, inW, Option.isSome_some, Option.isSome_none, itM, forM, items_dl, items_dt, methL, methD, arg0, arg1, arg2, appendW, popW, listW, get_new, set_new, isLst_new, pow109, String.reduceBEq, String.reduceEq, Bool.false_or, Bool.true_or, Bool.or_false, Bool.or_true, Int.reduceNeg, last_KK, hx, en]
      have hret : ∀ s : String, retM (tupM (consA (varM 5) (consA (conM (.str (Str.ofString s))) nilA))) [some w, x1, x2, x3, x4, some (.c st.length), some (.d r.enc)] (st ++ [.lst (encKK (l ++ [ks]))]) = .ret (.d (.tup [.lst (encKK (l ++ [ks])), .str (Str.ofString s)])) (st ++ [.frz (.lst (encKK (l ++ [ks])))]) := fun s => by
        simp only [szs, fnM, rawM, seqM, ifM, tvM, truM, binM, unM, appM, consA, nilA, varM, conM, retM, retN, asgM, expM, raiseM, passS, callF, app1, app2, noExc, isExc_d, isExc_c, bindS_ok, bindS_err, bindS_stuck, Res.bind_ok, Res.bind_err, Res.bind_stuck, onBl_bl, andT, orT, notT, andV, orV, notV, tupM, lstM, toDs, toD, asD_d, asD_new, frzW_d, newT, newL, slM, slW, someO, noneO, ixW, addW, subW, mulW, modW, cmpW, negW, lenW, intW, tabW, isNonB, isNonW, isNon_d, List.map_cons, List.map_nil, List.length_cons, List.length_nil, List.replicate, List.append_nil, List.nil_append, List.cons_append, List.getElem?_cons_zero, List.getElem?_cons_succ, List.set_cons_zero, List.set_cons_succ, Nat.reduceAdd, Nat.reduceSub, if_true, if_false, ite_true, ite_false, Bool.not_true, Bool.not_false, Bool.and_true, Bool.and_false, Bool.false_eq_true, reduceIte, fin_same, finE_same, fin_new, atI_0, atI_1, atI_2, eqW_ofs, look_ofs, look_nil, dspC, newDc, inW, Option.isSome_some, Option.isSome_none, itM, forM, items_dl, items_dt, methL, methD, arg0, arg1, arg2, appendW, popW, listW, get_new, set_new, isLst_new, pow109, String.reduceBEq, String.reduceEq, Bool.false_or, Bool.true_or, Bool.or_false, Bool.or_true, hfz]
      have hd : e ≠ .dry := fun h => nextK_dry _ _ _ (h ▸ q)
      show tryM _ _ _ _ = _
      unfold tryM
      have eB' : expM (methL (arg1 appendW) (varM 5) (consA (callF s_p_behind (consA (varM 0) (consA (binM ixW (varM 5) (unM negW (conM (.int 1)))) (consA (varM 6) nilA)))) nilA)) (([some w, x1, x2, x3, x4, some (.c st.length), x6] : Env).set 6 (some (.d r.enc))) (st ++ [.lst (encKK (l ++ [ks]))]) = _ := eB
      rw [eB']
      simp only
      cases e with
      | empty => simp only [handle, List.mem_singleton, if_true, hret, noErrS, excS]
      | kind => simp only [handle, List.mem_singleton, if_true, reduceCtorEq, if_false, hret, noErrS, excS]
      | block => simp only [handle, List.mem_singleton, if_true, reduceCtorEq, if_false, hret, noErrS, excS]
      | apart => simp only [handle, List.mem_singleton, if_true, reduceCtorEq, if_false, hret, noErrS, excS]
      | dry => exact absurd rfl hd
    | ok k' =>
      rw [q] at en
      have hk' := nextK_len2 hf q
      have e2 : (trailK f ks (r :: rs)) = (ks :: (trailK f k' rs).1, (trailK f k' rs).2) := by simp only [trailK, q]
      have happ : encKK (l ++ [ks]) ++ [D.tup (encK k')] = encKK ((l ++ [ks]) ++ [k']) := by simp
      have hzl : (encKK (l ++ [ks])).length < sizeLine := lt_line (by rw [List.length_map, List.length_append, List.length_singleton]; omega)
      have eA : wentB [some w, x1, x2, x3, x4, some (.c st.length), some (.d r.enc)] (st ++ [.lst (encKK (l ++ [ks]))])
          = .nx [some w, x1, x2, x3, x4, some (.c st.length), some (.d r.enc)] (st ++ [.lst (encKK ((l ++ [ks]) ++ [k']))]) := by
        show tryM _ _ _ _ = _
        simp only [szs, fnM, rawM, seqM, ifM, tvM, truM, binM, unM, appM, consA, nilA, varM, conM, retM, retN, asgM, expM, raiseM, passS, callF, app1, app2, noExc, isExc_d, isExc_c, bindS_ok, bindS_err, bindS_stuck, Res.bind_ok, Res.bind_err, Res.bind_stuck, onBl_bl, andT, orT, notT, andV, orV, notV, tupM, lstM, toDs, toD, asD_d, asD_new, frzW_d, newT, newL, slM, slW, someO, noneO, ixW, addW, subW, mulW, modW, cmpW, negW, lenW, intW, tabW, isNonB, isNonW, isNon_d, List.map_cons, List.map_nil, List.length_cons, List.length_nil, List.replicate, List.append_nil, List.nil_append, List.cons_append, List.getElem?_cons_zero, List.getElem?_cons_succ, List.set_cons_zero, List.set_cons_succ, Nat.reduceAdd, Nat.reduceSub, if_true, if_false, ite_true, ite_false, Bool.not_true, Bool.not_false, Bool.and_true, Bool.and_false, Bool.false_eq_true, reduceIte, fin_same, finE_same, fin_new, atI_0, atI_1, atI_2, eqW_ofs, look_ofs, look_nil, dspC, newDc, inW, Option.isSome_some, Option.isSome_none, itM, forM, items_dl, items_dt, methL, methD, arg0, arg1, arg2, appendW, popW, listW, get_new, set_new, isLst_new, pow109, String.reduceBEq, String.reduceEq, Bool.false_or, Bool.true_or, Bool.or_false, Bool.or_true, tryM, Int.reduceNeg, last_KK, hx, en, hzl, happ]
      obtain ⟨y6, ih⟩ := went_loop w kvs f st hw hs hf x1 x2 x3 x4 rs (l ++ [ks]) k' (some (.d r.enc)) (fun x hx => hr x (List.mem_cons_of_mem _ hx)) (by omega) (by rw [List.length_append, List.length_singleton]; omega)
      refine ⟨y6, ?_⟩
      refine (loopS_nx rfl eA).trans (ih.trans ?_)
      rw [e2]
      simp only [List.append_assoc, List.singleton_append]
/-- the word of a trail -/
def wdD (s : String) : D := if s = "" then .non else .str (Str.ofString s)
theorem wdD_non : wdD "" = .non := rfl
theorem excS_nn (c : Exc) : excS c ≠ "" := by cases c <;> decide
theorem went_ok (w : W) (st : Store) (P : Prg) (n : Str) (b : Blk) (hw : asD st w = some (.dct (encP P))) (hP : PrgOk P) (hb : lookA n P = some b) :
    s_p_went [w, .d (.str n)] st = .ok (.d (.tup [.lst (encKK (wayK (telP P) b).1), wdD (wayK (telP P) b).2])) st := by
  have hx : w.isExc = false := noExc_of hw
  have hbo : BlkOk b := hP.bl _ (lookA_mem hb)
  have hlk : look n (encP P) = some (.tup [.tup (encK b.ins), .tup (encK b.outs), .lst (encR b.rows)]) := by rw [lookP, hb]; rfl
  have hsi := hbo.si
  have hsr := hbo.sr
  obtain ⟨y6, e⟩ := went_loop w (encP P) (telP P) st hw (sees_P P) hP.small (some (.d (.str n))) (some (.d (.tup (encK b.ins)))) (some (.d (.tup (encK b.outs)))) (some (.d (.lst (encR b.rows)))) b.rows [] b.ins none hbo.ro (by omega) (by simp; omega)
  simp only [List.nil_append] at e
  have pre : ∀ rest : MS, seqM (asgTM [2, 3, 4] (binM ixW (varM 0) (varM 1))) (seqM (asgM 5 (lstM true (consA (varM 2) nilA))) rest) [some w, some (.d (.str n)), none, none, none, none, none] st
      = rest [some w, some (.d (.str n)), some (.d (.tup (encK b.ins))), some (.d (.tup (encK b.outs))), some (.d (.lst (encR b.rows))), some (.c st.length), none] (st ++ [.lst (encKK [b.ins])]) := fun rest => by
    refine (seq_nx (e := [some w, some (.d (.str n)), some (.d (.tup (encK b.ins))), some (.d (.tup (encK b.outs))), some (.d (.lst (encR b.rows))), none, none]) (s := st) (by simp only [szs, fnM, rawM, seqM, ifM, tvM, truM, binM, unM, appM, consA, nilA, varM, conM, retM, retN, asgM, expM, raiseM, passS, callF, app1, app2, noExc, isExc_d, isExc_c, bindS_ok, bindS_err, bindS_stuck, Res.bind_ok, Res.bind_err, Res.bind_stuck, onBl_bl, andT, orT, notT, andV, orV, notV, tupM, lstM, toDs, toD, asD_d, asD_new, frzW_d, newT, newL, slM, slW, someO, noneO, ixW, addW, subW, mulW, modW, cmpW, negW, lenW, intW, tabW, isNonB, isNonW, isNon_d, List.map_cons, List.map_nil, List.length_cons, List.length_nil, List.replicate, List.append_nil, List.nil_append, List.cons_append, List.getElem?_cons_zero, List.getElem?_cons_succ, List.set_cons_zero, List.set_cons_succ, Nat.reduceAdd, Nat.reduceSub, if_true, if_false, ite_true, ite_false, Bool.not_true, Bool.not_false, Bool.and_true, Bool.and_false, Bool.false_eq_true, reduceIte, fin_same, finE_same, fin_new, atI_0, atI_1, atI_2, eqW_ofs, look_ofs, look_nil, dspC, newDc, inW, Option.isSome_some, Option.isSome_none, itM, forM, items_dl, items_dt, methL, methD, arg0, arg1, arg2, appendW, popW, listW, get_new, set_new, isLst_new, pow109, String.reduceBEq, String.reduceEq, Bool.false_or, Bool.true_or, Bool.or_false, Bool.or_true, asgTM, hw, hlk, sets])).trans ?_
    exact seq_nx (by simp only [szs, fnM, rawM, seqM, ifM, tvM, truM, binM, unM, appM, consA, nilA, varM, conM, retM, retN, asgM, expM, raiseM, passS, callF, app1, app2, noExc, isExc_d, isExc_c, bindS_ok, bindS_err, bindS_stuck, Res.bind_ok, Res.bind_err, Res.bind_stuck, onBl_bl, andT, orT, notT, andV, orV, notV, tupM, lstM, toDs, toD, asD_d, asD_new, frzW_d, newT, newL, slM, slW, someO, noneO, ixW, addW, subW, mulW, modW, cmpW, negW, lenW, intW, tabW, isNonB, isNonW, isNon_d, List.map_cons, List.map_nil, List.length_cons, List.length_nil, List.replicate, List.append_nil, List.nil_append, List.cons_append, List.getElem?_cons_zero, List.getElem?_cons_succ, List.set_cons_zero, List.set_cons_succ, Nat.reduceAdd, Nat.reduceSub, if_true, if_false, ite_true, ite_false, Bool.not_true, Bool.not_false, Bool.and_true, Bool.and_false, Bool.false_eq_true, reduceIte, fin_same, finE_same, fin_new, atI_0, atI_1, atI_2, eqW_ofs, look_ofs, look_nil, dspC, newDc, inW, Option.isSome_some, Option.isSome_none, itM, forM, items_dl, items_dt, methL, methD, arg0, arg1, arg2, appendW, popW, listW, get_new, set_new, isLst_new, pow109, String.reduceBEq, String.reduceEq, Bool.false_or, Bool.true_or, Bool.or_false, Bool.or_true])
  unfold s_p_went wayK endsK
  cases q : (trailK (telP P) b.ins b.rows).2 with
  | some c =>
    rw [q] at e
    refine (fnM_ret rfl ?_).trans (fin_grow st _ (.frz (.lst (encKK (trailK (telP P) b.ins b.rows).1))) (fun _ h => by cases h))
    unfold b_p_went
    refine (pre _).trans (seq_ret ?_)
    unfold forM itM
    simp only [szs, fnM, rawM, seqM, ifM, tvM, truM, binM, unM, appM, consA, nilA, varM, conM, retM, retN, asgM, expM, raiseM, passS, callF, app1, app2, noExc, isExc_d, isExc_c, bindS_ok, bindS_err, bindS_stuck, Res.bind_ok, Res.bind_err, Res.bind_stuck, onBl_bl, andT, orT, notT, andV, orV, notV, tupM, lstM, toDs, toD, asD_d, asD_new, frzW_d, newT, newL, slM, slW, someO, noneO, ixW, addW, subW, mulW, modW, cmpW, negW, lenW, intW, tabW, isNonB, isNonW, isNon_d, List.map_cons, List.map_nil, List.length_cons, List.length_nil, List.replicate, List.append_nil, List.nil_append, List.cons_append, List.getElem?_cons_zero, List.getElem?_cons_succ, List.set_cons_zero, List.set_cons_succ, Nat.reduceAdd, Nat.reduceSub, if_true, if_false, ite_true, ite_false, Bool.not_true, Bool.not_false, Bool.and_true, Bool.and_false, Bool.false_eq_true, reduceIte, fin_same, finE_same, fin_new, atI_0, atI_1, atI_2, eqW_ofs, look_ofs, look_nil, dspC, newDc, inW, Option.isSome_some, Option.isSome_none, itM, forM, items_dl, items_dt, methL, methD, arg0, arg1, arg2, appendW, popW, listW, get_new, set_new, isLst_new, pow109, String.reduceBEq, String.reduceEq, Bool.false_or, Bool.true_or, Bool.or_false, Bool.or_true]
    simp only [wdD, if_neg (excS_nn c)]
    exact e
  | none =>
    rw [q] at e
    obtain ⟨l, k', hl1, hl2⟩ := trail_last (f := telP P) (ks := b.ins) (rs := b.rows)
    rw [hl2]
    have hat : atI (encKK (trailK (telP P) b.ins b.rows).1) (-1) = some (.tup (encK k')) := by rw [hl1]; exact last_KK l k'
    have hfz : frzW (.c st.length) (.lst (encKK (trailK (telP P) b.ins b.rows).1)) (st ++ [.lst (encKK (trailK (telP P) b.ins b.rows).1)]) = st ++ [.frz (.lst (encKK (trailK (telP P) b.ins b.rows).1))] := by
      show (st ++ [Cell.lst _]).set st.length _ = _
      rw [set_new]
    refine (fnM_ret rfl ?_).trans (fin_grow st _ (.frz (.lst (encKK (trailK (telP P) b.ins b.rows).1))) (fun _ h => by cases h))
    unfold b_p_went
    refine (pre _).trans ?_
    refine (seq_nx (e := [some w, some (.d (.str n)), some (.d (.tup (encK b.ins))), some (.d (.tup (encK b.outs))), some (.d (.lst (encR b.rows))), some (.c st.length), y6]) (s := st ++ [.lst (encKK (trailK (telP P) b.ins b.rows).1)]) (by
      unfold forM itM
      simp only [szs, fnM, rawM, seqM, ifM, tvM, truM, binM, unM, appM, consA, nilA, varM, conM, retM, retN, asgM, expM, raiseM, passS, callF, app1, app2, noExc, isExc_d, isExc_c, bindS_ok, bindS_err, bindS_stuck, Res.bind_ok, Res.bind_err, Res.bind_stuck, onBl_bl, andT, orT, notT, andV, orV, notV, tupM, lstM, toDs, toD, asD_d, asD_new, frzW_d, newT, newL, slM, slW, someO, noneO, ixW, addW, subW, mulW, modW, cmpW, negW, lenW, intW, tabW, isNonB, isNonW, isNon_d, List.map_cons, List.map_nil, List.length_cons, List.length_nil, List.replicate, List.append_nil, List.nil_append, List.cons_append, List.getElem?_cons_zero, List.getElem?_cons_succ, List.set_cons_zero, List.set_cons_succ, Nat.reduceAdd, Nat.reduceSub, if_true, if_false, ite_true, ite_false, Bool.not_true, Bool.not_false, Bool.and_true, Bool.and_false, Bool.false_eq_true, reduceIte, fin_same, finE_same, fin_new, atI_0, atI_1, atI_2, eqW_ofs, look_ofs, look_nil, dspC, newDc, inW, Option.isSome_some, Option.isSome_none, itM, forM, items_dl, items_dt, methL, methD, arg0, arg1, arg2, appendW, popW, listW, get_new, set_new, isLst_new, pow109, String.reduceBEq, String.reduceEq, Bool.false_or, Bool.true_or, Bool.or_false, Bool.or_true]
      exact e)).trans ?_
    by_cases h : k' = b.outs
    · subst h
      simp only [szs, fnM, rawM, seqM, ifM, tvM, truM, binM, unM, appM, consA, nilA, varM, conM, retM, retN, asgM, expM, raiseM, passS, callF, app1, app2, noExc, isExc_d, isExc_c, bindS_ok, bindS_err, bindS_stuck, Res.bind_ok, Res.bind_err, Res.bind_stuck, onBl_bl, andT, orT, notT, andV, orV, notV, tupM, lstM, toDs, toD, asD_d, asD_new, frzW_d, newT, newL, slM, slW, someO, noneO, ixW, addW, subW, mulW, modW, cmpW, negW, lenW, intW, tabW, isNonB, isNonW, isNon_d, List.map_cons, List.map_nil, List.length_cons, List.length_nil, List.replicate, List.append_nil, List.nil_append, List.cons_append, List.getElem?_cons_zero, List.getElem?_cons_succ, List.set_cons_zero, List.set_cons_succ, Nat.reduceAdd, Nat.reduceSub, if_true, if_false, ite_true, ite_false, Bool.not_true, Bool.not_false, Bool.and_true, Bool.and_false, Bool.false_eq_true, reduceIte, fin_same, finE_same, fin_new, atI_0, atI_1, atI_2, eqW_ofs, look_ofs, look_nil, dspC, newDc, inW, Option.isSome_some, Option.isSome_none, itM, forM, items_dl, items_dt, methL, methD, arg0, arg1, arg2, appendW, popW, listW, get_new, set_new, isLst_new, pow109, String.reduceBEq, String.reduceEq, Bool.false_or, Bool.true_or, Bool.or_false, Bool.or_true, Int.reduceNeg, hat, eqW_K, decide_true, hfz, wdD]
    · have h' : ¬ (some k' = some b.outs) := fun e => h (Option.some.inj e)
      have hend : ("end" = "") = False := by simp
      simp only [szs, fnM, rawM, seqM, ifM, tvM, truM, binM, unM, appM, consA, nilA, varM, conM, retM, retN, asgM, expM, raiseM, passS, callF, app1, app2, noExc, isExc_d, isExc_c, bindS_ok, bindS_err, bindS_stuck, Res.bind_ok, Res.bind_err, Res.bind_stuck, onBl_bl, andT, orT, notT, andV, orV, notV, tupM, lstM, toDs, toD, asD_d, asD_new, frzW_d, newT, newL, slM, slW, someO, noneO, ixW, addW, subW, mulW, modW, cmpW, negW, lenW, intW, tabW, isNonB, isNonW, isNon_d, List.map_cons, List.map_nil, List.length_cons, List.length_nil, List.replicate, List.append_nil, List.nil_append, List.cons_append, List.getElem?_cons_zero, List.getElem?_cons_succ, List.set_cons_zero, List.set_cons_succ, Nat.reduceAdd, Nat.reduceSub, if_true, if_false, ite_true, ite_false, Bool.not_true, Bool.not_false, Bool.and_true, Bool.and_false, Bool.false_eq_true, reduceIte, fin_same, finE_same, fin_new, atI_0, atI_1, atI_2, eqW_ofs, look_ofs, look_nil, dspC, newDc, inW, Option.isSome_some, Option.isSome_none, itM, forM, items_dl, items_dt, methL, methD, arg0, arg1, arg2, appendW, popW, listW, get_new, set_new, isLst_new, pow109, String.reduceBEq, String.reduceEq, Bool.false_or, Bool.true_or, Bool.or_false, Bool.or_true, Int.reduceNeg, hat, eqW_K, h, h', decide_false, hfz, wdD, hend]
theorem trail_of_ok (w : W) (st : Store) (P : Prg) (n : Str) (b : Blk) (hw : asD st w = some (.dct (encP P))) (hP : PrgOk P) (hb : lookA n P = some b) :
    s_p_trail_of [w, .d (.str n)] st = .ok (.d (if (wayK (telP P) b).2 = "" then .lst (encKK (wayK (telP P) b).1) else .non)) st := by
  have hx : w.isExc = false := noExc_of hw
  have e := went_ok w st P n b hw hP hb
  unfold s_p_trail_of b_p_trail_of
  by_cases h : (wayK (telP P) b).2 = ""
  · rw [if_pos h]
    rw [h, wdD_non] at e
    simp only [szs, fnM, rawM, seqM, ifM, tvM, truM, binM, unM, appM, consA, nilA, varM, conM, retM, retN, asgM, expM, raiseM, passS, callF, app1, app2, noExc, isExc_d, isExc_c, bindS_ok, bindS_err, bindS_stuck, Res.bind_ok, Res.bind_err, Res.bind_stuck, onBl_bl, andT, orT, notT, andV, orV, notV, tupM, lstM, toDs, toD, asD_d, asD_new, frzW_d, newT, newL, slM, slW, someO, noneO, ixW, addW, subW, mulW, modW, cmpW, negW, lenW, intW, tabW, isNonB, isNonW, isNon_d, List.map_cons, List.map_nil, List.length_cons, List.length_nil, List.replicate, List.append_nil, List.nil_append, List.cons_append, List.getElem?_cons_zero, List.getElem?_cons_succ, List.set_cons_zero, List.set_cons_succ, Nat.reduceAdd, Nat.reduceSub, if_true, if_false, ite_true, ite_false, Bool.not_true, Bool.not_false, Bool.and_true, Bool.and_false, Bool.false_eq_true, reduceIte, fin_same, finE_same, fin_new, atI_0, atI_1, atI_2, eqW_ofs, look_ofs, look_nil, dspC, newDc, inW, Option.isSome_some, Option.isSome_none, itM, forM, items_dl, items_dt, methL, methD, arg0, arg1, arg2, appendW, popW, listW, get_new, set_new, isLst_new, pow109, String.reduceBEq, String.reduceEq, Bool.false_or, Bool.true_or, Bool.or_false, Bool.or_true, asgTM, hx, e, sets]
  · rw [if_neg h]
    have : wdD (wayK (telP P) b).2 = .str (Str.ofString (wayK (telP P) b).2) := if_neg h
    rw [this] at e
    simp only [szs, fnM, rawM, seqM, ifM, tvM, truM, binM, unM, appM, consA, nilA, varM, conM, retM, retN, asgM, expM, raiseM, passS, callF, app1, app2, noExc, isExc_d, isExc_c, bindS_ok, bindS_err, bindS_stuck, Res.bind_ok, Res.bind_err, Res.bind_stuck, onBl_bl, andT, orT, notT, andV, orV, notV, tupM, lstM, toDs, toD, asD_d, asD_new, frzW_d, newT, newL, slM, slW, someO, noneO, ixW, addW, subW, mulW, modW, cmpW, negW, lenW, intW, tabW, isNonB, isNonW, isNon_d, List.map_cons, List.map_nil, List.length_cons, List.length_nil, List.replicate, List.append_nil, List.nil_append, List.cons_append, List.getElem?_cons_zero, List.getElem?_cons_succ, List.set_cons_zero, List.set_cons_succ, Nat.reduceAdd, Nat.reduceSub, if_true, if_false, ite_true, ite_false, Bool.not_true, Bool.not_false, Bool.and_true, Bool.and_false, Bool.false_eq_true, reduceIte, fin_same, finE_same, fin_new, atI_0, atI_1, atI_2, eqW_ofs, look_ofs, look_nil, dspC, newDc, inW, Option.isSome_some, Option.isSome_none, itM, forM, items_dl, items_dt, methL, methD, arg0, arg1, arg2, appendW, popW, listW, get_new, set_new, isLst_new, pow109, String.reduceBEq, String.reduceEq, Bool.false_or, Bool.true_or, Bool.or_false, Bool.or_true, asgTM, hx, e, sets]
theorem fault_ok (w : W) (st : Store) (P : Prg) (n : Str) (b : Blk) (hw : asD st w = some (.dct (encP P))) (hP : PrgOk P) (hb : lookA n P = some b) :
    s_p_fault [w, .d (.str n)] st = .ok (.d (if (wayK (telP P) b).2 = "" then .non else .tup [.int ((wayK (telP P) b).1.length - 1), .str (Str.ofString (wayK (telP P) b).2)])) st := by
  have hx : w.isExc = false := noExc_of hw
  have e := went_ok w st P n b hw hP hb
  have hl : ((encKK (wayK (telP P) b).1).length : Int) = ((wayK (telP P) b).1.length : Int) := by rw [List.length_map]
  unfold s_p_fault b_p_fault
  by_cases h : (wayK (telP P) b).2 = ""
  · rw [if_pos h]
    rw [h, wdD_non] at e
    simp only [szs, fnM, rawM, seqM, ifM, tvM, truM, binM, unM, appM, consA, nilA, varM, conM, retM, retN, asgM, expM, raiseM, passS, callF, app1, app2, noExc, isExc_d, isExc_c, bindS_ok, bindS_err, bindS_stuck, Res.bind_ok, Res.bind_err, Res.bind_stuck, onBl_bl, andT, orT, notT, andV, orV, notV, tupM, lstM, toDs, toD, asD_d, asD_new, frzW_d, newT, newL, slM, slW, someO, noneO, ixW, addW, subW, mulW, modW, cmpW, negW, lenW, intW, tabW, isNonB, isNonW, isNon_d, List.map_cons, List.map_nil, List.length_cons, List.length_nil, List.replicate, List.append_nil, List.nil_append, List.cons_append, List.getElem?_cons_zero, List.getElem?_cons_succ, List.set_cons_zero, List.set_cons_succ, Nat.reduceAdd, Nat.reduceSub, if_true, if_false, ite_true, ite_false, Bool.not_true, Bool.not_false, Bool.and_true, Bool.and_false, Bool.false_eq_true, reduceIte, fin_same, finE_same, fin_new, atI_0, atI_1, atI_2, eqW_ofs, look_ofs, look_nil, dspC, newDc, inW, Option.isSome_some, Option.isSome_none, itM, forM, items_dl, items_dt, methL, methD, arg0, arg1, arg2, appendW, popW, listW, get_new, set_new, isLst_new, pow109, String.reduceBEq, String.reduceEq, Bool.false_or, Bool.true_or, Bool.or_false, Bool.or_true, asgTM, hx, e, sets]
  · rw [if_neg h]
    have : wdD (wayK (telP P) b).2 = .str (Str.ofString (wayK (telP P) b).2) := if_neg h
    rw [this] at e
    simp only [szs, fnM, rawM, seqM, ifM, tvM, truM, binM, unM, appM, consA, nilA, varM, conM, retM, retN, asgM, expM, raiseM, passS, callF, app1, app2, noExc, isExc_d, isExc_c, bindS_ok, bindS_err, bindS_stuck, Res.bind_ok, Res.bind_err, Res.bind_stuck, onBl_bl, andT, orT, notT, andV, orV, notV, tupM, lstM, toDs, toD, asD_d, asD_new, frzW_d, newT, newL, slM, slW, someO, noneO, ixW, addW, subW, mulW, modW, cmpW, negW, lenW, intW, tabW, isNonB, isNonW, isNon_d, List.map_cons, List.map_nil, List.length_cons, List.length_nil, List.replicate, List.append_nil, List.nil_append, List.cons_append, List.getElem?_cons_zero, List.getElem?_cons_succ, List.set_cons_zero, List.set_cons_succ, Nat.reduceAdd, Nat.reduceSub, if_true, if_false, ite_true, ite_false, Bool.not_true, Bool.not_false, Bool.and_true, Bool.and_false, Bool.false_eq_true, reduceIte, fin_same, finE_same, fin_new, atI_0, atI_1, atI_2, eqW_ofs, look_ofs, look_nil, dspC, newDc, inW, Option.isSome_some, Option.isSome_none, itM, forM, items_dl, items_dt, methL, methD, arg0, arg1, arg2, appendW, popW, listW, get_new, set_new, isLst_new, pow109, String.reduceBEq, String.reduceEq, Bool.false_or, Bool.true_or, Bool.or_false, Bool.or_true, asgTM, hx, e, sets, hl]
end Py

namespace Py
open PySem L2
end Py

namespace Py
open PySem L2
end Py

namespace Py
open PySem L2
/-- the program that a law looks at -/
structure Looked (P : Prg) (way : Int) : Prop where
  some : SomeP P
  good : 4 < way → GoodP P
theorem goodP_word {P : Prg} (h : GoodP P) {n : Str} {b : Blk} (hb : lookA n P = some b) : (wayK (telP P) b).2 = "" := (h.good _ (lookA_mem hb)).way
theorem way_len (f : Tl) (b : Blk) : (wayK f b).1.length ≤ b.rows.length + 1 := trailK_len _ _ _
/-- the store behind the copy -/
abbrev S3 (P : Prg) (t : Int) : Store := [tc t, .dct (encP P), .frz (.dct (encP P))]
end Py

namespace Py
open PySem L2
/-! ### names in rows, what can be come to -/
def Rw.names : Rw → List Str
  | .plain _ => []
  | .call n => [n]
  | .iff a b => [a, b]
def named (b : Blk) : List Str := b.rows.flatMap Rw.names
inductive Rch (P : Prg) (n : Str) : Str → Prop
  | one {b : Blk} {m : Str} : lookA n P = some b → m ∈ named b → Rch P n m
  | more {b : Blk} {m k : Str} : Rch P n m → lookA m P = some b → k ∈ named b → Rch P n k
/-- let by, as the law sees it -/
def LetBy (P : Prg) (n : Str) : Prop := ∀ m, (m = n ∨ Rch P n m) → ∃ b, lookA m P = some b ∧ (wayK (telP P) b).2 = ""
theorem run_names {f : Tl} : ∀ {rs : List Rw} {ks k' : List Kd}, runK f ks rs = some k' → ∀ r ∈ rs, ∀ m ∈ r.names, f m ≠ none
  | r :: rs, ks, k', h, x, hx, m, hm => by
    simp only [runK] at h
    cases q : nextK f ks r with
    | error e => rw [q] at h; cases h
    | ok k2 =>
      rw [q] at h
      rcases List.mem_cons.mp hx with e | hx
      · subst e
        cases x with
        | plain _ => cases hm
        | call n =>
          simp only [Rw.names, List.mem_singleton] at hm; subst hm
          simp only [nextK] at q
          intro hn; rw [hn] at q; cases q
        | iff a b =>
          simp only [nextK] at q
          split at q
          · cases q
          · split at q
            · rename_i e1 e2
              simp only [Rw.names, List.mem_cons, List.not_mem_nil, or_false] at hm
              rcases hm with rfl | rfl
              · rw [e1]; intro h; cases h
              · rw [e2]; intro h; cases h
            · cases q
      · exact run_names h x hx m hm
theorem good_there {P : Prg} (h : GoodP P) {n m : Str} {b : Blk} (hb : lookA n P = some b) (hm : m ∈ named b) : ∃ b', lookA m P = some b' := by
  have hg := h.good _ (lookA_mem hb)
  obtain ⟨r, hr, hmr⟩ := List.mem_flatMap.mp hm
  have := run_names hg r hr m hmr
  unfold telP at this
  cases q : lookA m P with
  | none => rw [q] at this; exact absurd rfl this
  | some b' => exact ⟨b', rfl⟩
theorem good_letby {P : Prg} (h : GoodP P) {n : Str} {b : Blk} (hb : lookA n P = some b) : LetBy P n := by
  intro m hm
  have there : ∃ b', lookA m P = some b' := by
    rcases hm with rfl | hm
    · exact ⟨b, hb⟩
    · cases hm with
      | one h1 h2 => exact good_there h h1 h2
      | more _ h1 h2 => exact good_there h h1 h2
  obtain ⟨b', hb'⟩ := there
  exact ⟨b', hb', goodP_word h hb'⟩
theorem named_len {b : Blk} (h : BlkOk b) : (named b).length ≤ 6000 := by
  have : ∀ rs : List Rw, (rs.flatMap Rw.names).length ≤ 2 * rs.length := by
    intro rs
    induction rs with
    | nil => simp
    | cons r rs ih =>
      rw [List.flatMap_cons, List.length_append, List.length_cons]
      have : r.names.length ≤ 2 := by cases r <;> simp [Rw.names]
      omega
  have h1 := this b.rows
  have h2 := h.sr
  unfold named; omega
noncomputable abbrev namB : MS := (ifM (orT (tvM (binM (eqW false) (binM ixW (varM 2) (conM (.int 0))) (conM (.str "call")))) (tvM (binM (eqW false) (binM ixW (varM 2) (conM (.int 0))) (conM (.str "if")))))
  (expM (methL (arg1 extendW) (varM 1) (consA (slM false (varM 2) (someO (conM (.int 1))) noneO) nilA)))
  passS)
theorem cut_1 {α : Type} (x : α) (xs : List α) : cut (x :: xs) (some 1) none = xs := by
  have := cut_from (x :: xs) 1
  rw [show ((1 : Nat) : Int) = 1 from rfl] at this
  rw [this]; rfl
theorem named_step (st : Store) (x0 : Option W) (acc : List Str) (r : Rw) (hl : acc.length ≤ 800000) :
    namB [x0, some (.c st.length), some (.d r.enc)] (st ++ [.lst (encS acc)]) = .nx [x0, some (.c st.length), some (.d r.enc)] (st ++ [.lst (encS (acc ++ r.names))]) := by
  have hla : (encS acc).length = acc.length := List.length_map _
  cases r with
  | plain r =>
    simp only [Rw.names, List.append_nil]
    cases r with
    | num v => simp only [szs, fnM, rawM, seqM, ifM, tvM, truM, binM, unM, appM, consA, nilA, varM, conM, retM, retN, asgM, expM, raiseM, passS, callF, app1, app2, noExc, isExc_d, isExc_c, bindS_ok, bindS_err, bindS_stuck, Res.bind_ok, Res.bind_err, Res.bind_stuck, onBl_bl, andT, orT, notT, andV, orV, notV, tupM, lstM, toDs, toD, asD_d, asD_new, frzW_d, newT, newL, slM, slW, someO, noneO, ixW, addW, subW, mulW, modW, cmpW, negW, lenW, intW, tabW, isNonB, isNonW, isNon_d, List.map_cons, List.map_nil, List.length_cons, List.length_nil, List.replicate, List.append_nil, List.nil_append, List.cons_append, List.getElem?_cons_zero, List.getElem?_cons_succ, List.set_cons_zero, List.set_cons_succ, Nat.reduceAdd, Nat.reduceSub, if_true, if_false, ite_true, ite_false, Bool.not_true, Bool.not_false, Bool.and_true, Bool.and_false, Bool.false_eq_true, reduceIte, fin_same, finE_same, fin_new, atI_0, atI_1, atI_2, eqW_ofs, look_ofs, look_nil, dspC, newDc, inW, Option.isSome_some, Option.isSome_none, itM, forM, items_dl, items_dt, methL, methD, arg0, arg1, arg2, appendW, popW, listW, get_new, set_new, isLst_new, pow109, String.reduceBEq, String.reduceEq, Bool.false_or, Bool.true_or, Bool.or_false, Bool.or_true, Rw.enc, Row.enc]
    | text v => simp only [szs, fnM, rawM, seqM, ifM, tvM, truM, binM, unM, appM, consA, nilA, varM, conM, retM, retN, asgM, expM, raiseM, passS, callF, app1, app2, noExc, isExc_d, isExc_c, bindS_ok, bindS_err, bindS_stuck, Res.bind_ok, Res.bind_err, Res.bind_stuck, onBl_bl, andT, orT, notT, andV, orV, notV, tupM, lstM, toDs, toD, asD_d, asD_new, frzW_d, newT, newL, slM, slW, someO, noneO, ixW, addW, subW, mulW, modW, cmpW, negW, lenW, intW, tabW, isNonB, isNonW, isNon_d, List.map_cons, List.map_nil, List.length_cons, List.length_nil, List.replicate, List.append_nil, List.nil_append, List.cons_append, List.getElem?_cons_zero, List.getElem?_cons_succ, List.set_cons_zero, List.set_cons_succ, Nat.reduceAdd, Nat.reduceSub, if_true, if_false, ite_true, ite_false, Bool.not_true, Bool.not_false, Bool.and_true, Bool.and_false, Bool.false_eq_true, reduceIte, fin_same, finE_same, fin_new, atI_0, atI_1, atI_2, eqW_ofs, look_ofs, look_nil, dspC, newDc, inW, Option.isSome_some, Option.isSome_none, itM, forM, items_dl, items_dt, methL, methD, arg0, arg1, arg2, appendW, popW, listW, get_new, set_new, isLst_new, pow109, String.reduceBEq, String.reduceEq, Bool.false_or, Bool.true_or, Bool.or_false, Bool.or_true, Rw.enc, Row.enc]
    | copy v => simp only [szs, fnM, rawM, seqM, ifM, tvM, truM, binM, unM, appM, consA, nilA, varM, conM, retM, retN, asgM, expM, raiseM, passS, callF, app1, app2, noExc, isExc_d, isExc_c, bindS_ok, bindS_err, bindS_stuck, Res.bind_ok, Res.bind_err, Res.bind_stuck, onBl_bl, andT, orT, notT, andV, orV, notV, tupM, lstM, toDs, toD, asD_d, asD_new, frzW_d, newT, newL, slM, slW, someO, noneO, ixW, addW, subW, mulW, modW, cmpW, negW, lenW, intW, tabW, isNonB, isNonW, isNon_d, List.map_cons, List.map_nil, List.length_cons, List.length_nil, List.replicate, List.append_nil, List.nil_append, List.cons_append, List.getElem?_cons_zero, List.getElem?_cons_succ, List.set_cons_zero, List.set_cons_succ, Nat.reduceAdd, Nat.reduceSub, if_true, if_false, ite_true, ite_false, Bool.not_true, Bool.not_false, Bool.and_true, Bool.and_false, Bool.false_eq_true, reduceIte, fin_same, finE_same, fin_new, atI_0, atI_1, atI_2, eqW_ofs, look_ofs, look_nil, dspC, newDc, inW, Option.isSome_some, Option.isSome_none, itM, forM, items_dl, items_dt, methL, methD, arg0, arg1, arg2, appendW, popW, listW, get_new, set_new, isLst_new, pow109, String.reduceBEq, String.reduceEq, Bool.false_or, Bool.true_or, Bool.or_false, Bool.or_true, Rw.enc, Row.enc]
    | op o => cases o <;> simp only [szs, fnM, rawM, seqM, ifM, tvM, truM, binM, unM, appM, consA, nilA, varM, conM, retM, retN, asgM, expM, raiseM, passS, callF, app1, app2, noExc, isExc_d, isExc_c, bindS_ok, bindS_err, bindS_stuck, Res.bind_ok, Res.bind_err, Res.bind_stuck, onBl_bl, andT, orT, notT, andV, orV, notV, tupM, lstM, toDs, toD, asD_d, asD_new, frzW_d, newT, newL, slM, slW, someO, noneO, ixW, addW, subW, mulW, modW, cmpW, negW, lenW, intW, tabW, isNonB, isNonW, isNon_d, List.map_cons, List.map_nil, List.length_cons, List.length_nil, List.replicate, List.append_nil, List.nil_append, List.cons_append, List.getElem?_cons_zero, List.getElem?_cons_succ, List.set_cons_zero, List.set_cons_succ, Nat.reduceAdd, Nat.reduceSub, if_true, if_false, ite_true, ite_false, Bool.not_true, Bool.not_false, Bool.and_true, Bool.and_false, Bool.false_eq_true, reduceIte, fin_same, finE_same, fin_new, atI_0, atI_1, atI_2, eqW_ofs, look_ofs, look_nil, dspC, newDc, inW, Option.isSome_some, Option.isSome_none, itM, forM, items_dl, items_dt, methL, methD, arg0, arg1, arg2, appendW, popW, listW, get_new, set_new, isLst_new, pow109, String.reduceBEq, String.reduceEq, Bool.false_or, Bool.true_or, Bool.or_false, Bool.or_true, Rw.enc, Row.enc, Op.s]
  | call n =>
    have h1 : (encS acc).length + [D.str n].length ≤ sizeLine := small (by rw [hla]; simp; omega)
    have h2 : encS acc ++ [D.str n] = encS (acc ++ [n]) := by simp
    simp only [List.length_cons, List.length_nil] at h1
    simp only [szs, fnM, rawM, seqM, ifM, tvM, truM, binM, unM, appM, consA, nilA, varM, conM, retM, retN, asgM, expM, raiseM, passS, callF, app1, app2, noExc, isExc_d, isExc_c, bindS_ok, bindS_err, bindS_stuck, Res.bind_ok, Res.bind_err, Res.bind_stuck, onBl_bl, andT, orT, notT, andV, orV, notV, tupM, lstM, toDs, toD, asD_d, asD_new, frzW_d, newT, newL, slM, slW, someO, noneO, ixW, addW, subW, mulW, modW, cmpW, negW, lenW, intW, tabW, isNonB, isNonW, isNon_d, List.map_cons, List.map_nil, List.length_cons, List.length_nil, List.replicate, List.append_nil, List.nil_append, List.cons_append, List.getElem?_cons_zero, List.getElem?_cons_succ, List.set_cons_zero, List.set_cons_succ, Nat.reduceAdd, Nat.reduceSub, if_true, if_false, ite_true, ite_false, Bool.not_true, Bool.not_false, Bool.and_true, Bool.and_false, Bool.false_eq_true, reduceIte, fin_same, finE_same, fin_new, atI_0, atI_1, atI_2, eqW_ofs, look_ofs, look_nil, dspC, newDc, inW, Option.isSome_some, Option.isSome_none, itM, forM, items_dl, items_dt, methL, methD, arg0, arg1, arg2, appendW, popW, listW, get_new, set_new, isLst_new, pow109, String.reduceBEq, String.reduceEq, Bool.false_or, Bool.true_or, Bool.or_false, Bool.or_true, Rw.enc, cut_1, extendW, h1, h2, Rw.names]
  | iff a b =>
    have h1 : (encS acc).length + [D.str a, D.str b].length ≤ sizeLine := small (by rw [hla]; simp; omega)
    have h2 : encS acc ++ [D.str a, D.str b] = encS (acc ++ [a, b]) := by simp
    simp only [List.length_cons, List.length_nil] at h1
    simp only [szs, fnM, rawM, seqM, ifM, tvM, truM, binM, unM, appM, consA, nilA, varM, conM, retM, retN, asgM, expM, raiseM, passS, callF, app1, app2, noExc, isExc_d, isExc_c, bindS_ok, bindS_err, bindS_stuck, Res.bind_ok, Res.bind_err, Res.bind_stuck, onBl_bl, andT, orT, notT, andV, orV, notV, tupM, lstM, toDs, toD, asD_d, asD_new, frzW_d, newT, newL, slM, slW, someO, noneO, ixW, addW, subW, mulW, modW, cmpW, negW, lenW, intW, tabW, isNonB, isNonW, isNon_d, List.map_cons, List.map_nil, List.length_cons, List.length_nil, List.replicate, List.append_nil, List.nil_append, List.cons_append, List.getElem?_cons_zero, List.getElem?_cons_succ, List.set_cons_zero, List.set_cons_succ, Nat.reduceAdd, Nat.reduceSub, if_true, if_false, ite_true, ite_false, Bool.not_true, Bool.not_false, Bool.and_true, Bool.and_false, Bool.false_eq_true, reduceIte, fin_same, finE_same, fin_new, atI_0, atI_1, atI_2, eqW_ofs, look_ofs, look_nil, dspC, newDc, inW, Option.isSome_some, Option.isSome_none, itM, forM, items_dl, items_dt, methL, methD, arg0, arg1, arg2, appendW, popW, listW, get_new, set_new, isLst_new, pow109, String.reduceBEq, String.reduceEq, Bool.false_or, Bool.true_or, Bool.or_false, Bool.or_true, Rw.enc, cut_1, extendW, h1, h2, Rw.names]
theorem named_ok (b : Blk) (hb : BlkOk b) (st : Store) : s_p_named [.d b.enc] st = .ok (.c st.length) (st ++ [.lst (encS (named b))]) := by
  have hb2 := hb.sr
  obtain ⟨env', st', e, acc, us, x, q1, q2, q3, q4, q5⟩ := loop_inv (t := .name 2) (body := namB)
    (fun ys env s => ∃ (acc : List Str) (us : List Rw) (x : Option W), ys = encR us ∧ acc ++ us.flatMap Rw.names = named b ∧ env = [some (.d b.enc), some (.c st.length), x] ∧ s = st ++ [.lst (encS acc)] ∧ acc.length + 2 * us.length ≤ 6000)
    (encR b.rows) [some (.d b.enc), some (.c st.length), none] (st ++ [.lst []])
    (fun y ys env s ⟨acc, us, x, q1, q2, q3, q4, q5⟩ => by
      subst q3 q4
      cases us with
      | nil => cases q1
      | cons r us =>
        obtain ⟨rfl, rfl⟩ := List.cons.inj q1
        have hn : r.names.length ≤ 2 := by cases r <;> simp [Rw.names]
        simp only [List.length_cons] at q5
        refine ⟨_, _, _, rfl, named_step st _ acc r (by omega), acc ++ r.names, us, _, rfl, ?_, rfl, rfl, ?_⟩
        · rw [← q2, List.flatMap_cons, List.append_assoc]
        · rw [List.length_append]; omega)
    ⟨[], b.rows, none, rfl, rfl, rfl, rfl, by simp; omega⟩
  have hus : us = [] := by
    cases us with
    | nil => rfl
    | cons _ _ => cases q1
  subst hus q3 q4
  simp only [List.flatMap_nil, List.append_nil] at q2
  subst q2
  unfold s_p_named b_p_named
  refine (fnM_ret (w := .c st.length) (st' := st ++ [.lst (encS (named b))]) rfl ?_).trans (fin_new _ _)
  refine (seq_nx (e := [some (.d b.enc), some (.c st.length), none]) (s := st ++ [.lst []]) (by simp only [szs, fnM, rawM, seqM, ifM, tvM, truM, binM, unM, appM, consA, nilA, varM, conM, retM, retN, asgM, expM, raiseM, passS, callF, app1, app2, noExc, isExc_d, isExc_c, bindS_ok, bindS_err, bindS_stuck, Res.bind_ok, Res.bind_err, Res.bind_stuck, onBl_bl, andT, orT, notT, andV, orV, notV, tupM, lstM, toDs, toD, asD_d, asD_new, frzW_d, newT, newL, slM, slW, someO, noneO, ixW, addW, subW, mulW, modW, cmpW, negW, lenW, intW, tabW, isNonB, isNonW, isNon_d, List.map_cons, List.map_nil, List.length_cons, List.length_nil, List.replicate, List.append_nil, List.nil_append, List.cons_append, List.getElem?_cons_zero, List.getElem?_cons_succ, List.set_cons_zero, List.set_cons_succ, Nat.reduceAdd, Nat.reduceSub, if_true, if_false, ite_true, ite_false, Bool.not_true, Bool.not_false, Bool.and_true, Bool.and_false, Bool.false_eq_true, reduceIte, fin_same, finE_same, fin_new, atI_0, atI_1, atI_2, eqW_ofs, look_ofs, look_nil, dspC, newDc, inW, Option.isSome_some, Option.isSome_none, itM, forM, items_dl, items_dt, methL, methD, arg0, arg1, arg2, appendW, popW, listW, get_new, set_new, isLst_new, pow109, String.reduceBEq, String.reduceEq, Bool.false_or, Bool.true_or, Bool.or_false, Bool.or_true])).trans ?_
  refine (seq_nx (e := [some (.d b.enc), some (.c st.length), x]) (s := st ++ [.lst (encS (named b))]) (by
    unfold forM itM
    simp only [szs, fnM, rawM, seqM, ifM, tvM, truM, binM, unM, appM, consA, nilA, varM, conM, retM, retN, asgM, expM, raiseM, passS, callF, app1, app2, noExc, isExc_d, isExc_c, bindS_ok, bindS_err, bindS_stuck, Res.bind_ok, Res.bind_err, Res.bind_stuck, onBl_bl, andT, orT, notT, andV, orV, notV, tupM, lstM, toDs, toD, asD_d, asD_new, frzW_d, newT, newL, slM, slW, someO, noneO, ixW, addW, subW, mulW, modW, cmpW, negW, lenW, intW, tabW, isNonB, isNonW, isNon_d, List.map_cons, List.map_nil, List.length_cons, List.length_nil, List.replicate, List.append_nil, List.nil_append, List.cons_append, List.getElem?_cons_zero, List.getElem?_cons_succ, List.set_cons_zero, List.set_cons_succ, Nat.reduceAdd, Nat.reduceSub, if_true, if_false, ite_true, ite_false, Bool.not_true, Bool.not_false, Bool.and_true, Bool.and_false, Bool.false_eq_true, reduceIte, fin_same, finE_same, fin_new, atI_0, atI_1, atI_2, eqW_ofs, look_ofs, look_nil, dspC, newDc, inW, Option.isSome_some, Option.isSome_none, itM, forM, items_dl, items_dt, methL, methD, arg0, arg1, arg2, appendW, popW, listW, get_new, set_new, isLst_new, pow109, String.reduceBEq, String.reduceEq, Bool.false_or, Bool.true_or, Bool.or_false, Bool.or_true, Blk.enc]
    exact e)).trans ?_
  simp only [szs, fnM, rawM, seqM, ifM, tvM, truM, binM, unM, appM, consA, nilA, varM, conM, retM, retN, asgM, expM, raiseM, passS, callF, app1, app2, noExc, isExc_d, isExc_c, bindS_ok, bindS_err, bindS_stuck, Res.bind_ok, Res.bind_err, Res.bind_stuck, onBl_bl, andT, orT, notT, andV, orV, notV, tupM, lstM, toDs, toD, asD_d, asD_new, frzW_d, newT, newL, slM, slW, someO, noneO, ixW, addW, subW, mulW, modW, cmpW, negW, lenW, intW, tabW, isNonB, isNonW, isNon_d, List.map_cons, List.map_nil, List.length_cons, List.length_nil, List.replicate, List.append_nil, List.nil_append, List.cons_append, List.getElem?_cons_zero, List.getElem?_cons_succ, List.set_cons_zero, List.set_cons_succ, Nat.reduceAdd, Nat.reduceSub, if_true, if_false, ite_true, ite_false, Bool.not_true, Bool.not_false, Bool.and_true, Bool.and_false, Bool.false_eq_true, reduceIte, fin_same, finE_same, fin_new, atI_0, atI_1, atI_2, eqW_ofs, look_ofs, look_nil, dspC, newDc, inW, Option.isSome_some, Option.isSome_none, itM, forM, items_dl, items_dt, methL, methD, arg0, arg1, arg2, appendW, popW, listW, get_new, set_new, isLst_new, pow109, String.reduceBEq, String.reduceEq, Bool.false_or, Bool.true_or, Bool.or_false, Bool.or_true]
/-! ### whiles -/
theorem while_inv {c : M Bool} {b : MS} (I : Nat → Env → Store → Prop) (h : ∀ m env st, I m env st → ∃ t, c env st = .ok t st ∧ (t = true → ∃ m' env' st', m' < m ∧ b env st = .nx env' st' ∧ I m' env' st')) :
    ∀ (n m : Nat) (env : Env) (st : Store), I m env st → m < n → ∃ m' env' st', whileM c b n env st = .nx env' st' ∧ I m' env' st' ∧ c env' st' = .ok false st'
  | 0, m, env, st, _, hm => absurd hm (Nat.not_lt_zero _)
  | n + 1, m, env, st, hI, hm => by
    obtain ⟨t, e, k⟩ := h m env st hI
    cases t with
    | false => exact ⟨m, env, st, by rw [whileM_succ, e]; simp, hI, e⟩
    | true =>
      obtain ⟨m', env', st', g1, g2, g3⟩ := k rfl
      obtain ⟨m2, e2, s2, r1, r2, r3⟩ := while_inv I h n m' env' st' g3 (by omega)
      refine ⟨m2, e2, s2, ?_, r2, r3⟩
      rw [whileM_succ, e]
      simp only [bindS_ok, if_true, g2]
      exact r1
theorem filter_le {α : Type} {p q : α → Bool} : ∀ (l : List α), (∀ x ∈ l, p x = true → q x = true) → (l.filter p).length ≤ (l.filter q).length
  | [], _ => Nat.le_refl _
  | x :: l, h => by
    have ih := filter_le l fun y hy => h y (List.mem_cons_of_mem _ hy)
    have hx := h x List.mem_cons_self
    rw [List.filter_cons, List.filter_cons]
    cases hp : p x with
    | true => rw [hx hp]; simp; omega
    | false => cases hq : q x <;> simp <;> omega
theorem filter_lt {α : Type} {p q : α → Bool} : ∀ (l : List α), (∀ x ∈ l, p x = true → q x = true) → (∃ x ∈ l, q x = true ∧ p x = false) → (l.filter p).length < (l.filter q).length
  | [], _, ⟨x, hx, _⟩ => absurd hx List.not_mem_nil
  | x :: l, h, ⟨y, hy, h1, h2⟩ => by
    have hle := filter_le l fun y hy => h y (List.mem_cons_of_mem _ hy)
    have hx := h x List.mem_cons_self
    rw [List.filter_cons, List.filter_cons]
    rcases List.mem_cons.mp hy with e | hy
    · subst e; rw [h1, h2]; simp; omega
    · have ih := filter_lt l (fun y hy => h y (List.mem_cons_of_mem _ hy)) ⟨y, hy, h1, h2⟩
      cases hp : p x with
      | true => rw [hx hp]; simp; omega
      | false => cases hq : q x <;> simp <;> omega
theorem any_strs (l : List Str) (k : Str) : ((encS l).any fun z => z.eqv (.str k)) = l.contains k := by
  induction l with
  | nil => rfl
  | cons x l ih =>
    rw [List.contains_cons, ← ih]
    show (D.eqv (.str x) (.str k) || _) = _
    have : D.eqv (.str x) (.str k) = (k == x) := by
      show (x == k) = (k == x)
      exact Bool.eq_iff_iff.mpr ⟨fun h => by rw [beq_iff_eq] at h ⊢; exact h.symm, fun h => by rw [beq_iff_eq] at h ⊢; exact h.symm⟩
    rw [this]
theorem all_strs (l : List Str) : (encS l).all isStr = true := by
  rw [List.all_map, List.all_eq_true]
  intro x _; rfl
end Py

namespace Py
open PySem L2
/-! ### what the program comes to -/
abbrev RS2 (st : Store) (f w : List Str) (G : Store) : Store := st ++ (.lst (encS f) :: .lst (encS w) :: G)
section
variable (st : Store) (f w : List Str) (G : Store)
theorem rs_get0 (a : Cell) (G : Store) : (st ++ (a :: G))[st.length]? = some a := by
  rw [List.getElem?_append_right (Nat.le_refl _)]; simp
theorem rs_get1 (a b : Cell) (G : Store) : (st ++ (a :: b :: G))[st.length + 1]? = some b := by
  rw [List.getElem?_append_right (by omega)]; simp
theorem rs_set0 (a x : Cell) (G : Store) : (st ++ (a :: G)).set st.length x = st ++ (x :: G) := by
  rw [List.set_append_right _ _ (Nat.le_refl _)]; simp
theorem rs_set1 (a b x : Cell) (G : Store) : (st ++ (a :: b :: G)).set (st.length + 1) x = st ++ (a :: x :: G) := by
  rw [List.set_append_right _ _ (by omega)]; simp
theorem rs_asD0 (xs : List D) (G : Store) : asD (st ++ (Cell.lst xs :: G)) (.c st.length) = some (.lst xs) := by
  unfold asD; simp only; rw [rs_get0]
theorem rs_asD1 (a : Cell) (xs : List D) (G : Store) : asD (st ++ (a :: Cell.lst xs :: G)) (.c (st.length + 1)) = some (.lst xs) := by
  unfold asD; simp only; rw [rs_get1]
theorem rs_isL0 (xs : List D) (G : Store) : isLst (.c st.length) (st ++ (Cell.lst xs :: G)) = true := by unfold isLst; rw [rs_asD0]
theorem rs_isL1 (a : Cell) (xs : List D) (G : Store) : isLst (.c (st.length + 1)) (st ++ (a :: Cell.lst xs :: G)) = true := by unfold isLst; rw [rs_asD1]
theorem fin_lst0 (xs : List D) (G : Store) : fin st (.c st.length) (st ++ (Cell.lst xs :: G)) = .ok (.c st.length) (st ++ [.lst xs]) := by
  unfold fin
  rw [if_pos]
  · simp only
    rw [if_neg (Nat.lt_irrefl _), rs_get0]
    simp
  · exact ⟨by simp, fun k fs hk h => by rwa [List.getElem?_append_left hk] at h⟩
end
noncomputable abbrev rchB : MS := (seqM (asgM 4 (methL (arg0 popW) (varM 3) nilA))
  (ifM (tvM (binM (inW true) (varM 4) (varM 2)))
  (seqM (expM (methL (arg1 appendW) (varM 2) (consA (varM 4) nilA)))
  (ifM (tvM (binM (inW false) (varM 4) (varM 0)))
  (expM (methL (arg1 extendW) (varM 3) (consA (frM (callF s_p_named (consA (binM ixW (varM 0) (varM 4)) nilA))) nilA)))
  passS))
  passS))
def keysLeft (P : Prg) (f : List Str) : Nat := (P.filter fun p => !(f.contains p.1)).length
theorem keysLeft_le (P : Prg) (f : List Str) : keysLeft P f ≤ P.length := List.length_filter_le _ _
theorem contains_app (f : List Str) (m k : Str) : (f ++ [m]).contains k = (f.contains k || k == m) := by
  rw [List.contains_eq_any_beq, List.contains_eq_any_beq, List.any_append]; simp
theorem keysLeft_more (P : Prg) (f : List Str) (m : Str) : keysLeft P (f ++ [m]) ≤ keysLeft P f :=
  filter_le P fun p _ h => by
    rw [contains_app] at h
    cases q : f.contains p.1 with
    | true => rw [q] at h; cases h
    | false => rfl
theorem keysLeft_lt (P : Prg) (f : List Str) (m : Str) (b : Blk) (hm : (m, b) ∈ P) (hf : f.contains m = false) : keysLeft P (f ++ [m]) < keysLeft P f :=
  filter_lt P (fun p _ h => by
    rw [contains_app] at h
    cases q : f.contains p.1 with
    | true => rw [q] at h; cases h
    | false => rfl) ⟨(m, b), hm, by rw [hf]; rfl, by rw [contains_app]; simp⟩
/-- the invariant of what is found, what is waiting -/
structure RI (P : Prg) (n : Str) (f w : List Str) : Prop where
  sf : ∀ m ∈ f, Rch P n m
  sw : ∀ m ∈ w, Rch P n m
  cl : ∀ m ∈ f, ∀ b, lookA m P = some b → ∀ k ∈ named b, k ∈ f ∨ k ∈ w
  st : ∀ b, lookA n P = some b → ∀ k ∈ named b, k ∈ f ∨ k ∈ w
theorem RI.full {P : Prg} {n : Str} {f : List Str} (h : RI P n f []) : ∀ m, m ∈ f ↔ Rch P n m := fun m =>
  ⟨h.sf m, fun r => by
    induction r with
    | one h1 h2 => rcases h.st _ h1 _ h2 with q | q; exact q; cases q
    | more _ h1 h2 ih => rcases h.cl _ ih _ h1 _ h2 with q | q; exact q; cases q⟩
theorem contains_mem {f : List Str} {m : Str} : f.contains m = true ↔ m ∈ f := by
  rw [List.contains_eq_any_beq, List.any_eq_true]
  exact ⟨fun ⟨x, hx, e⟩ => by rw [beq_iff_eq] at e; subst e; exact hx, fun h => ⟨m, h, beq_self_eq_true m⟩⟩
theorem p_reached_ok (w : W) (st : Store) (P : Prg) (n : Str) (b0 : Blk) (hw : asD st w = some (.dct (encP P))) (hP : PrgOk P) (hl : P.length ≤ 70) (hb : lookA n P = some b0) :
    ∃ F : List Str, (∀ m, m ∈ F ↔ Rch P n m) ∧ F.length ≤ 500000 ∧ s_p_reached [w, .d (.str n)] st = .ok (.c st.length) (st ++ [.lst (encS F)]) := by
  have hx : w.isExc = false := noExc_of hw
  have hbo : BlkOk b0 := hP.bl _ (lookA_mem hb)
  have hn0 := named_len hbo
  have hlk : look n (encP P) = some b0.enc := by rw [lookP, hb]; rfl
  obtain ⟨m', env', st', e, ⟨f, wt, G, x4, i1, i2, i3, i4, i5⟩, ec⟩ := while_inv (c := truM (varM 3)) (b := rchB)
    (fun m env s => ∃ (f wt : List Str) (G : Store) (x4 : Option W), RI P n f wt ∧ m = wt.length + 6001 * keysLeft P f ∧ f.length + m ≤ 430000 ∧ env = [some w, some (.d (.str n)), some (.c st.length), some (.c (st.length + 1)), x4] ∧ s = RS2 st f wt G)
    (fun m env s ⟨f, wt, G, x4, i1, i2, i3, i4, i5⟩ => by
      subst i4 i5
      refine ⟨!(encS wt).isEmpty, ?_, ?_⟩
      · unfold truM
        simp only [varM, List.getElem?_cons_zero, List.getElem?_cons_succ, Res.bind_ok, rs_asD1]
      · intro ht
        have hne : wt ≠ [] := fun h => by subst h; cases ht
        obtain ⟨us, o, rfl⟩ : ∃ us o, wt = us ++ [o] := ⟨wt.dropLast, wt.getLast hne, (List.dropLast_concat_getLast hne).symm⟩
        have hor : Rch P n o := i1.sw o (by simp)
        rw [List.length_append, List.length_singleton] at i2
        have hgl : (encS (us ++ [o])).getLast? = some (.str o) := by simp
        have hdl : (encS (us ++ [o])).dropLast = encS us := by simp
        have ePop : asgM 4 (methL (arg0 popW) (varM 3) nilA) [some w, some (.d (.str n)), some (.c st.length), some (.c (st.length + 1)), x4] (RS2 st f (us ++ [o]) G) = .nx [some w, some (.d (.str n)), some (.c st.length), some (.c (st.length + 1)), some (.d (.str o))] (RS2 st f us G) := by
          simp only [szs, fnM, rawM, seqM, ifM, tvM, truM, binM, unM, appM, consA, nilA, varM, conM, retM, retN, asgM, expM, raiseM, passS, callF, app1, app2, noExc, isExc_d, isExc_c, bindS_ok, bindS_err, bindS_stuck, Res.bind_ok, Res.bind_err, Res.bind_stuck, onBl_bl, andT, orT, notT, andV, orV, notV, tupM, lstM, toDs, toD, asD_d, asD_new, frzW_d, newT, newL, slM, slW, someO, noneO, ixW, addW, subW, mulW, modW, cmpW, negW, lenW, intW, tabW, isNonB, isNonW, isNon_d, List.map_cons, List.map_nil, List.length_cons, List.length_nil, List.replicate, List.append_nil, List.nil_append, List.cons_append, List.getElem?_cons_zero, List.getElem?_cons_succ, List.set_cons_zero, List.set_cons_succ, Nat.reduceAdd, Nat.reduceSub, if_true, if_false, ite_true, ite_false, Bool.not_true, Bool.not_false, Bool.and_true, Bool.and_false, Bool.false_eq_true, reduceIte, fin_same, finE_same, fin_new, atI_0, atI_1, atI_2, eqW_ofs, look_ofs, look_nil, dspC, newDc, inW, Option.isSome_some, Option.isSome_none, itM, forM, items_dl, items_dt, methL, methD, arg0, arg1, arg2, appendW, popW, listW, get_new, set_new, isLst_new, pow109, String.reduceBEq, String.reduceEq, Bool.false_or, Bool.true_or, Bool.or_false, Bool.or_true, rs_isL1, rs_get1, hgl, hdl, rs_set1]
        have hin : binM (inW true) (varM 4) (varM 2) [some w, some (.d (.str n)), some (.c st.length), some (.c (st.length + 1)), some (.d (.str o))] (RS2 st f us G) = .ok (.d (.bl (!(f.contains o)))) (RS2 st f us G) := by
          simp only [szs, fnM, rawM, seqM, ifM, tvM, truM, binM, unM, appM, consA, nilA, varM, conM, retM, retN, asgM, expM, raiseM, passS, callF, app1, app2, noExc, isExc_d, isExc_c, bindS_ok, bindS_err, bindS_stuck, Res.bind_ok, Res.bind_err, Res.bind_stuck, onBl_bl, andT, orT, notT, andV, orV, notV, tupM, lstM, toDs, toD, asD_d, asD_new, frzW_d, newT, newL, slM, slW, someO, noneO, ixW, addW, subW, mulW, modW, cmpW, negW, lenW, intW, tabW, isNonB, isNonW, isNon_d, List.map_cons, List.map_nil, List.length_cons, List.length_nil, List.replicate, List.append_nil, List.nil_append, List.cons_append, List.getElem?_cons_zero, List.getElem?_cons_succ, List.set_cons_zero, List.set_cons_succ, Nat.reduceAdd, Nat.reduceSub, if_true, if_false, ite_true, ite_false, Bool.not_true, Bool.not_false, Bool.and_true, Bool.and_false, Bool.false_eq_true, reduceIte, fin_same, finE_same, fin_new, atI_0, atI_1, atI_2, eqW_ofs, look_ofs, look_nil, dspC, newDc, inW, Option.isSome_some, Option.isSome_none, itM, forM, items_dl, items_dt, methL, methD, arg0, arg1, arg2, appendW, popW, listW, get_new, set_new, isLst_new, pow109, String.reduceBEq, String.reduceEq, Bool.false_or, Bool.true_or, Bool.or_false, Bool.or_true, rs_asD0, all_strs, any_strs]
        cases q : f.contains o with
        | true =>
          have hof := contains_mem.mp q
          refine ⟨us.length + 6001 * keysLeft P f, _, _, by omega, (seq_nx ePop).trans (if_f (by unfold tvM; rw [hin, q]; rfl)), f, us, G, some (.d (.str o)), ⟨i1.sf, fun m hm => i1.sw m (by simp [hm]), fun m hm b hb k hk => ?_, fun b hb k hk => ?_⟩, rfl, by omega, rfl, rfl⟩
          · rcases i1.cl m hm b hb k hk with h | h
            · exact .inl h
            · rcases List.mem_append.mp h with h | h
              · exact .inr h
              · rw [List.mem_singleton] at h; subst h; exact .inl hof
          · rcases i1.st b hb k hk with h | h
            · exact .inl h
            · rcases List.mem_append.mp h with h | h
              · exact .inr h
              · rw [List.mem_singleton] at h; subst h; exact .inl hof
        | false =>
          have hfl : (encS f).length < sizeLine := lt_line (by rw [List.length_map]; omega)
          have happ : encS f ++ [D.str o] = encS (f ++ [o]) := by simp
          have eApp : expM (methL (arg1 appendW) (varM 2) (consA (varM 4) nilA)) [some w, some (.d (.str n)), some (.c st.length), some (.c (st.length + 1)), some (.d (.str o))] (RS2 st f us G) = .nx [some w, some (.d (.str n)), some (.c st.length), some (.c (st.length + 1)), some (.d (.str o))] (RS2 st (f ++ [o]) us G) := by
            simp only [szs, fnM, rawM, seqM, ifM, tvM, truM, binM, unM, appM, consA, nilA, varM, conM, retM, retN, asgM, expM, raiseM, passS, callF, app1, app2, noExc, isExc_d, isExc_c, bindS_ok, bindS_err, bindS_stuck, Res.bind_ok, Res.bind_err, Res.bind_stuck, onBl_bl, andT, orT, notT, andV, orV, notV, tupM, lstM, toDs, toD, asD_d, asD_new, frzW_d, newT, newL, slM, slW, someO, noneO, ixW, addW, subW, mulW, modW, cmpW, negW, lenW, intW, tabW, isNonB, isNonW, isNon_d, List.map_cons, List.map_nil, List.length_cons, List.length_nil, List.replicate, List.append_nil, List.nil_append, List.cons_append, List.getElem?_cons_zero, List.getElem?_cons_succ, List.set_cons_zero, List.set_cons_succ, Nat.reduceAdd, Nat.reduceSub, if_true, if_false, ite_true, ite_false, Bool.not_true, Bool.not_false, Bool.and_true, Bool.and_false, Bool.false_eq_true, reduceIte, fin_same, finE_same, fin_new, atI_0, atI_1, atI_2, eqW_ofs, look_ofs, look_nil, dspC, newDc, inW, Option.isSome_some, Option.isSome_none, itM, forM, items_dl, items_dt, methL, methD, arg0, arg1, arg2, appendW, popW, listW, get_new, set_new, isLst_new, pow109, String.reduceBEq, String.reduceEq, Bool.false_or, Bool.true_or, Bool.or_false, Bool.or_true, rs_isL0, rs_get0, hfl, happ, rs_set0]
          have hif : ∀ X Y : MS, ifM (tvM (binM (inW true) (varM 4) (varM 2))) X Y [some w, some (.d (.str n)), some (.c st.length), some (.c (st.length + 1)), some (.d (.str o))] (RS2 st f us G) = X [some w, some (.d (.str n)), some (.c st.length), some (.c (st.length + 1)), some (.d (.str o))] (RS2 st f us G) := fun X Y => if_t (by unfold tvM; rw [hin, q]; rfl)
          have hw2 := asD_app hw (.lst (encS (f ++ [o])) :: .lst (encS us) :: G)
          have move : ∀ k, (k ∈ f ∨ k ∈ us ++ [o]) → k ∈ f ++ [o] ∨ k ∈ us := fun k h => by
            rcases h with h | h
            · exact .inl (by simp [h])
            · rcases List.mem_append.mp h with h | h
              · exact .inr h
              · exact .inl (by simp at h; simp [h])
          cases qo : lookA o P with
          | none =>
            have hlo : look o (encP P) = none := by rw [lookP, qo]; rfl
            have hkl := keysLeft_more P f o
            refine ⟨us.length + 6001 * keysLeft P (f ++ [o]), _, _, by omega, (seq_nx ePop).trans ((hif _ _).trans ((seq_nx eApp).trans (if_f (s := RS2 st (f ++ [o]) us G) (by simp only [szs, fnM, rawM, seqM, ifM, tvM, truM, binM, unM, appM, consA, nilA, varM, conM, retM, retN, asgM, expM, raiseM, passS, callF, app1, app2, noExc, isExc_d, isExc_c, bindS_ok, bindS_err, bindS_stuck, Res.bind_ok, Res.bind_err, Res.bind_stuck, onBl_bl, andT, orT, notT, andV, orV, notV, tupM, lstM, toDs, toD, asD_d, asD_new, frzW_d, newT, newL, slM, slW, someO, noneO, ixW, addW, subW, mulW, modW, cmpW, negW, lenW, intW, tabW, isNonB, isNonW, isNon_d, List.map_cons, List.map_nil, List.length_cons, List.length_nil, List.replicate, List.append_nil, List.nil_append, List.cons_append, List.getElem?_cons_zero, List.getElem?_cons_succ, List.set_cons_zero, List.set_cons_succ, Nat.reduceAdd, Nat.reduceSub, if_true, if_false, ite_true, ite_false, Bool.not_true, Bool.not_false, Bool.and_true, Bool.and_false, Bool.false_eq_true, reduceIte, fin_same, finE_same, fin_new, atI_0, atI_1, atI_2, eqW_ofs, look_ofs, look_nil, dspC, newDc, inW, Option.isSome_some, Option.isSome_none, itM, forM, items_dl, items_dt, methL, methD, arg0, arg1, arg2, appendW, popW, listW, get_new, set_new, isLst_new, pow109, String.reduceBEq, String.reduceEq, Bool.false_or, Bool.true_or, Bool.or_false, Bool.or_true, hw2, hlo])))), f ++ [o], us, G, some (.d (.str o)), ⟨?_, fun m hm => i1.sw m (by simp [hm]), fun m hm b hb k hk => ?_, fun b hb k hk => move k (i1.st b hb k hk)⟩, rfl, by rw [List.length_append, List.length_singleton]; omega, rfl, rfl⟩
            · intro m hm
              rcases List.mem_append.mp hm with h | h
              · exact i1.sf m h
              · rw [List.mem_singleton] at h; subst h; exact hor
            · rcases List.mem_append.mp hm with h | h
              · exact move k (i1.cl m h b hb k hk)
              · rw [List.mem_singleton] at h; subst h; rw [qo] at hb; cases hb
          | some bo =>
            have hlo : look o (encP P) = some bo.enc := by rw [lookP, qo]; rfl
            have hboo : BlkOk bo := hP.bl _ (lookA_mem qo)
            have hno := named_len hboo
            have hkl := keysLeft_lt P f o bo (lookA_mem qo) q
            have enm := named_ok bo hboo (RS2 st (f ++ [o]) us G)
            have hlen : (RS2 st (f ++ [o]) us G).length = st.length + (G.length + 2) := by rw [List.length_append]; rfl
            have hfr : frM (callF s_p_named (consA (binM ixW (varM 0) (varM 4)) nilA)) [some w, some (.d (.str n)), some (.c st.length), some (.c (st.length + 1)), some (.d (.str o))] (RS2 st (f ++ [o]) us G) = .ok (.d (.lst (encS (named bo)))) (RS2 st (f ++ [o]) us (G ++ [.frz (.lst (encS (named bo)))])) := by
              rw [fr_ok (k := (RS2 st (f ++ [o]) us G).length) (s := RS2 st (f ++ [o]) us G ++ [.lst (encS (named bo))]) (d := .lst (encS (named bo))) (by simp only [szs, fnM, rawM, seqM, ifM, tvM, truM, binM, unM, appM, consA, nilA, varM, conM, retM, retN, asgM, expM, raiseM, passS, callF, app1, app2, noExc, isExc_d, isExc_c, bindS_ok, bindS_err, bindS_stuck, Res.bind_ok, Res.bind_err, Res.bind_stuck, onBl_bl, andT, orT, notT, andV, orV, notV, tupM, lstM, toDs, toD, asD_d, asD_new, frzW_d, newT, newL, slM, slW, someO, noneO, ixW, addW, subW, mulW, modW, cmpW, negW, lenW, intW, tabW, isNonB, isNonW, isNon_d, List.map_cons, List.map_nil, List.length_cons, List.length_nil, List.replicate, List.append_nil, List.nil_append, List.cons_append, List.getElem?_cons_zero, List.getElem?_cons_succ, List.set_cons_zero, List.set_cons_succ, Nat.reduceAdd, Nat.reduceSub, if_true, if_false, ite_true, ite_false, Bool.not_true, Bool.not_false, Bool.and_true, Bool.and_false, Bool.false_eq_true, reduceIte, fin_same, finE_same, fin_new, atI_0, atI_1, atI_2, eqW_ofs, look_ofs, look_nil, dspC, newDc, inW, Option.isSome_some, Option.isSome_none, itM, forM, items_dl, items_dt, methL, methD, arg0, arg1, arg2, appendW, popW, listW, get_new, set_new, isLst_new, pow109, String.reduceBEq, String.reduceEq, Bool.false_or, Bool.true_or, Bool.or_false, Bool.or_true, hw2, hlo, enm, show (W.d bo.enc).isExc = false from rfl]) (asD_new _ _)]
              rw [set_new]
              simp
            have hsum : (encS us).length + (encS (named bo)).length ≤ sizeLine := small (by rw [List.length_map, List.length_map]; omega)
            have happ2 : encS us ++ encS (named bo) = encS (us ++ named bo) := by simp
            have eExt : expM (methL (arg1 extendW) (varM 3) (consA (frM (callF s_p_named (consA (binM ixW (varM 0) (varM 4)) nilA))) nilA)) [some w, some (.d (.str n)), some (.c st.length), some (.c (st.length + 1)), some (.d (.str o))] (RS2 st (f ++ [o]) us G) = .nx [some w, some (.d (.str n)), some (.c st.length), some (.c (st.length + 1)), some (.d (.str o))] (RS2 st (f ++ [o]) (us ++ named bo) (G ++ [.frz (.lst (encS (named bo)))])) := by
              simp only [expM, methL, varM, List.getElem?_cons_zero, List.getElem?_cons_succ, Res.bind_ok, rs_isL1, if_true, consA, nilA, hfr, arg1]
              simp only [extendW, rs_get1, asD_d, hsum, notC, if_true, and_self, happ2, rs_set1, bindS_ok]
            refine ⟨(us ++ named bo).length + 6001 * keysLeft P (f ++ [o]), _, _, by rw [List.length_append]; omega, (seq_nx ePop).trans ((hif _ _).trans ((seq_nx eApp).trans ((if_t (s := RS2 st (f ++ [o]) us G) (by simp only [szs, fnM, rawM, seqM, ifM, tvM, truM, binM, unM, appM, consA, nilA, varM, conM, retM, retN, asgM, expM, raiseM, passS, callF, app1, app2, noExc, isExc_d, isExc_c, bindS_ok, bindS_err, bindS_stuck, Res.bind_ok, Res.bind_err, Res.bind_stuck, onBl_bl, andT, orT, notT, andV, orV, notV, tupM, lstM, toDs, toD, asD_d, asD_new, frzW_d, newT, newL, slM, slW, someO, noneO, ixW, addW, subW, mulW, modW, cmpW, negW, lenW, intW, tabW, isNonB, isNonW, isNon_d, List.map_cons, List.map_nil, List.length_cons, List.length_nil, List.replicate, List.append_nil, List.nil_append, List.cons_append, List.getElem?_cons_zero, List.getElem?_cons_succ, List.set_cons_zero, List.set_cons_succ, Nat.reduceAdd, Nat.reduceSub, if_true, if_false, ite_true, ite_false, Bool.not_true, Bool.not_false, Bool.and_true, Bool.and_false, Bool.false_eq_true, reduceIte, fin_same, finE_same, fin_new, atI_0, atI_1, atI_2, eqW_ofs, look_ofs, look_nil, dspC, newDc, inW, Option.isSome_some, Option.isSome_none, itM, forM, items_dl, items_dt, methL, methD, arg0, arg1, arg2, appendW, popW, listW, get_new, set_new, isLst_new, pow109, String.reduceBEq, String.reduceEq, Bool.false_or, Bool.true_or, Bool.or_false, Bool.or_true, hw2, hlo])).trans eExt))), f ++ [o], us ++ named bo, _, some (.d (.str o)), ⟨?_, ?_, fun m hm b hb k hk => ?_, fun b hb k hk => ?_⟩, rfl, by rw [List.length_append, List.length_append, List.length_singleton]; omega, rfl, rfl⟩
            · intro m hm
              rcases List.mem_append.mp hm with h | h
              · exact i1.sf m h
              · rw [List.mem_singleton] at h; subst h; exact hor
            · intro m hm
              rcases List.mem_append.mp hm with h | h
              · exact i1.sw m (by simp [h])
              · exact .more hor qo h
            · rcases List.mem_append.mp hm with h | h
              · rcases move k (i1.cl m h b hb k hk) with h | h
                · exact .inl h
                · exact .inr (by simp [h])
              · rw [List.mem_singleton] at h; subst h; rw [qo] at hb; cases hb; exact .inr (by simp [hk])
            · rcases move k (i1.st b hb k hk) with h | h
              · exact .inl h
              · exact .inr (by simp [h]))
    1000000 ((named b0).length + 6001 * keysLeft P []) [some w, some (.d (.str n)), some (.c st.length), some (.c (st.length + 1)), none] (RS2 st [] (named b0) [])
    ⟨[], named b0, [], none, ⟨by simp, fun m hm => .one hb hm, by simp, fun b hb' k hk => by rw [hb] at hb'; cases hb'; exact .inr hk⟩, rfl, by have := keysLeft_le P []; simp; omega, rfl, rfl⟩
    (by have := keysLeft_le P []; omega)
  subst i4 i5
  have hwt : wt = [] := by
    unfold truM at ec
    simp only [varM, List.getElem?_cons_zero, List.getElem?_cons_succ, Res.bind_ok, rs_asD1] at ec
    cases wt with
    | nil => rfl
    | cons _ _ => injection ec with ec; cases ec
  subst hwt
  refine ⟨f, i1.full, by omega, ?_⟩
  unfold s_p_reached b_p_reached
  refine (fnM_ret (st' := RS2 st f [] G) rfl ?_).trans (fin_lst0 st (encS f) (.lst (encS []) :: G))
  refine (seq_nx (e := [some w, some (.d (.str n)), some (.c st.length), none, none]) (s := st ++ [.lst []]) (by simp only [szs, fnM, rawM, seqM, ifM, tvM, truM, binM, unM, appM, consA, nilA, varM, conM, retM, retN, asgM, expM, raiseM, passS, callF, app1, app2, noExc, isExc_d, isExc_c, bindS_ok, bindS_err, bindS_stuck, Res.bind_ok, Res.bind_err, Res.bind_stuck, onBl_bl, andT, orT, notT, andV, orV, notV, tupM, lstM, toDs, toD, asD_d, asD_new, frzW_d, newT, newL, slM, slW, someO, noneO, ixW, addW, subW, mulW, modW, cmpW, negW, lenW, intW, tabW, isNonB, isNonW, isNon_d, List.map_cons, List.map_nil, List.length_cons, List.length_nil, List.replicate, List.append_nil, List.nil_append, List.cons_append, List.getElem?_cons_zero, List.getElem?_cons_succ, List.set_cons_zero, List.set_cons_succ, Nat.reduceAdd, Nat.reduceSub, if_true, if_false, ite_true, ite_false, Bool.not_true, Bool.not_false, Bool.and_true, Bool.and_false, Bool.false_eq_true, reduceIte, fin_same, finE_same, fin_new, atI_0, atI_1, atI_2, eqW_ofs, look_ofs, look_nil, dspC, newDc, inW, Option.isSome_some, Option.isSome_none, itM, forM, items_dl, items_dt, methL, methD, arg0, arg1, arg2, appendW, popW, listW, get_new, set_new, isLst_new, pow109, String.reduceBEq, String.reduceEq, Bool.false_or, Bool.true_or, Bool.or_false, Bool.or_true])).trans ?_
  refine (seq_nx (e := [some w, some (.d (.str n)), some (.c st.length), some (.c (st.length + 1)), none]) (s := RS2 st [] (named b0) []) (by
    have hw2 := asD_app hw [Cell.lst []]
    have enm := named_ok b0 hbo (st ++ [.lst []])
    have hlen : (st ++ [Cell.lst []]).length = st.length + 1 := by rw [List.length_append]; rfl
    rw [hlen] at enm
    have h2 : st ++ [Cell.lst []] ++ [Cell.lst (encS (named b0))] = RS2 st [] (named b0) [] := by simp
    rw [h2] at enm
    simp only [szs, fnM, rawM, seqM, ifM, tvM, truM, binM, unM, appM, consA, nilA, varM, conM, retM, retN, asgM, expM, raiseM, passS, callF, app1, app2, noExc, isExc_d, isExc_c, bindS_ok, bindS_err, bindS_stuck, Res.bind_ok, Res.bind_err, Res.bind_stuck, onBl_bl, andT, orT, notT, andV, orV, notV, tupM, lstM, toDs, toD, asD_d, asD_new, frzW_d, newT, newL, slM, slW, someO, noneO, ixW, addW, subW, mulW, modW, cmpW, negW, lenW, intW, tabW, isNonB, isNonW, isNon_d, List.map_cons, List.map_nil, List.length_cons, List.length_nil, List.replicate, List.append_nil, List.nil_append, List.cons_append, List.getElem?_cons_zero, List.getElem?_cons_succ, List.set_cons_zero, List.set_cons_succ, Nat.reduceAdd, Nat.reduceSub, if_true, if_false, ite_true, ite_false, Bool.not_true, Bool.not_false, Bool.and_true, Bool.and_false, Bool.false_eq_true, reduceIte, fin_same, finE_same, fin_new, atI_0, atI_1, atI_2, eqW_ofs, look_ofs, look_nil, dspC, newDc, inW, Option.isSome_some, Option.isSome_none, itM, forM, items_dl, items_dt, methL, methD, arg0, arg1, arg2, appendW, popW, listW, get_new, set_new, isLst_new, pow109, String.reduceBEq, String.reduceEq, Bool.false_or, Bool.true_or, Bool.or_false, Bool.or_true, hw2, hlk, enm, show (W.d b0.enc).isExc = false from rfl])).trans ?_
  refine (seq_nx e).trans ?_
  simp only [szs, fnM, rawM, seqM, ifM, tvM, truM, binM, unM, appM, consA, nilA, varM, conM, retM, retN, asgM, expM, raiseM, passS, callF, app1, app2, noExc, isExc_d, isExc_c, bindS_ok, bindS_err, bindS_stuck, Res.bind_ok, Res.bind_err, Res.bind_stuck, onBl_bl, andT, orT, notT, andV, orV, notV, tupM, lstM, toDs, toD, asD_d, asD_new, frzW_d, newT, newL, slM, slW, someO, noneO, ixW, addW, subW, mulW, modW, cmpW, negW, lenW, intW, tabW, isNonB, isNonW, isNon_d, List.map_cons, List.map_nil, List.length_cons, List.length_nil, List.replicate, List.append_nil, List.nil_append, List.cons_append, List.getElem?_cons_zero, List.getElem?_cons_succ, List.set_cons_zero, List.set_cons_succ, Nat.reduceAdd, Nat.reduceSub, if_true, if_false, ite_true, ite_false, Bool.not_true, Bool.not_false, Bool.and_true, Bool.and_false, Bool.false_eq_true, reduceIte, fin_same, finE_same, fin_new, atI_0, atI_1, atI_2, eqW_ofs, look_ofs, look_nil, dspC, newDc, inW, Option.isSome_some, Option.isSome_none, itM, forM, items_dl, items_dt, methL, methD, arg0, arg1, arg2, appendW, popW, listW, get_new, set_new, isLst_new, pow109, String.reduceBEq, String.reduceEq, Bool.false_or, Bool.true_or, Bool.or_false, Bool.or_true]
end Py

namespace Py
open PySem L2
/-- there, without a fault -/
def okM (P : Prg) (m : Str) : Bool := match lookA m P with
  | none => false
  | some b => (wayK (telP P) b).2 == ""
theorem okM_iff {P : Prg} {m : Str} : okM P m = true ↔ ∃ b, lookA m P = some b ∧ (wayK (telP P) b).2 = "" := by
  unfold okM
  cases lookA m P with
  | none => simp
  | some b => simp
theorem letBy_all {P : Prg} {n : Str} {F : List Str} (h : ∀ m, m ∈ F ↔ (m = n ∨ Rch P n m)) : F.all (okM P) = true ↔ LetBy P n := by
  rw [List.all_eq_true]
  exact ⟨fun g m hm => okM_iff.mp (g m ((h m).mpr hm)), fun g m hm => okM_iff.mpr (g m ((h m).mp hm))⟩
theorem let_by_ok (w : W) (st : Store) (P : Prg) (n : Str) (hw : asD st w = some (.dct (encP P))) (hP : PrgOk P) (hl : P.length ≤ 70) :
    ∃ r : Bool, (r = true ↔ LetBy P n) ∧ s_p_let_by [w, .d (.str n)] st = .ok (.d (.bl r)) st := by
  have hx : w.isExc = false := noExc_of hw
  unfold s_p_let_by b_p_let_by
  cases q : lookA n P with
  | none =>
    have hlk : look n (encP P) = none := by rw [lookP, q]; rfl
    refine ⟨false, ⟨fun h => (by cases h), fun h => ?_⟩, ?_⟩
    · obtain ⟨b, hb, _⟩ := h n (.inl rfl); rw [q] at hb; cases hb
    · simp only [szs, fnM, rawM, seqM, ifM, tvM, truM, binM, unM, appM, consA, nilA, varM, conM, retM, retN, asgM, expM, raiseM, passS, callF, app1, app2, noExc, isExc_d, isExc_c, bindS_ok, bindS_err, bindS_stuck, Res.bind_ok, Res.bind_err, Res.bind_stuck, onBl_bl, andT, orT, notT, andV, orV, notV, tupM, lstM, toDs, toD, asD_d, asD_new, frzW_d, newT, newL, slM, slW, someO, noneO, ixW, addW, subW, mulW, modW, cmpW, negW, lenW, intW, tabW, isNonB, isNonW, isNon_d, List.map_cons, List.map_nil, List.length_cons, List.length_nil, List.replicate, List.append_nil, List.nil_append, List.cons_append, List.getElem?_cons_zero, List.getElem?_cons_succ, List.set_cons_zero, List.set_cons_succ, Nat.reduceAdd, Nat.reduceSub, if_true, if_false, ite_true, ite_false, Bool.not_true, Bool.not_false, Bool.and_true, Bool.and_false, Bool.false_eq_true, reduceIte, fin_same, finE_same, fin_new, atI_0, atI_1, atI_2, eqW_ofs, look_ofs, look_nil, dspC, newDc, inW, Option.isSome_some, Option.isSome_none, itM, forM, items_dl, items_dt, methL, methD, arg0, arg1, arg2, appendW, popW, listW, get_new, set_new, isLst_new, pow109, String.reduceBEq, String.reduceEq, Bool.false_or, Bool.true_or, Bool.or_false, Bool.or_true, hw, hlk]
  | some b =>
    have hlk : look n (encP P) = some b.enc := by rw [lookP, q]; rfl
    obtain ⟨F, hF, hFl, eF⟩ := p_reached_ok w st P n b hw hP hl q
    let c : Cell := .frz (.lst (encS F))
    have hw2 := asD_app hw [c]
    have hfr : frM (callF s_p_reached (consA (varM 0) (consA (varM 1) nilA))) [some w, some (.d (.str n)), none] st = .ok (.d (.lst (encS F))) (st ++ [c]) := by
      rw [fr_ok (k := st.length) (s := st ++ [.lst (encS F)]) (d := .lst (encS F)) (by simp only [szs, fnM, rawM, seqM, ifM, tvM, truM, binM, unM, appM, consA, nilA, varM, conM, retM, retN, asgM, expM, raiseM, passS, callF, app1, app2, noExc, isExc_d, isExc_c, bindS_ok, bindS_err, bindS_stuck, Res.bind_ok, Res.bind_err, Res.bind_stuck, onBl_bl, andT, orT, notT, andV, orV, notV, tupM, lstM, toDs, toD, asD_d, asD_new, frzW_d, newT, newL, slM, slW, someO, noneO, ixW, addW, subW, mulW, modW, cmpW, negW, lenW, intW, tabW, isNonB, isNonW, isNon_d, List.map_cons, List.map_nil, List.length_cons, List.length_nil, List.replicate, List.append_nil, List.nil_append, List.cons_append, List.getElem?_cons_zero, List.getElem?_cons_succ, List.set_cons_zero, List.set_cons_succ, Nat.reduceAdd, Nat.reduceSub, if_true, if_false, ite_true, ite_false, Bool.not_true, Bool.not_false, Bool.and_true, Bool.and_false, Bool.false_eq_true, reduceIte, fin_same, finE_same, fin_new, atI_0, atI_1, atI_2, eqW_ofs, look_ofs, look_nil, dspC, newDc, inW, Option.isSome_some, Option.isSome_none, itM, forM, items_dl, items_dt, methL, methD, arg0, arg1, arg2, appendW, popW, listW, get_new, set_new, isLst_new, pow109, String.reduceBEq, String.reduceEq, Bool.false_or, Bool.true_or, Bool.or_false, Bool.or_true, hx, eF]) (asD_new _ _), set_new]
    have hz : (D.str n :: encS F).length ≤ sizeLine := small (by rw [List.length_cons, List.length_map]; omega)
    have eit : itM (binM (addW false) (lstM false (consA (varM 1) nilA)) (frM (callF s_p_reached (consA (varM 0) (consA (varM 1) nilA))))) [some w, some (.d (.str n)), none] st = .ok (encS (n :: F)) (st ++ [c]) := by
      unfold itM
      rw [bin_ok (x := .d (.lst [.str n])) (s1 := st) (by simp only [szs, fnM, rawM, seqM, ifM, tvM, truM, binM, unM, appM, consA, nilA, varM, conM, retM, retN, asgM, expM, raiseM, passS, callF, app1, app2, noExc, isExc_d, isExc_c, bindS_ok, bindS_err, bindS_stuck, Res.bind_ok, Res.bind_err, Res.bind_stuck, onBl_bl, andT, orT, notT, andV, orV, notV, tupM, lstM, toDs, toD, asD_d, asD_new, frzW_d, newT, newL, slM, slW, someO, noneO, ixW, addW, subW, mulW, modW, cmpW, negW, lenW, intW, tabW, isNonB, isNonW, isNon_d, List.map_cons, List.map_nil, List.length_cons, List.length_nil, List.replicate, List.append_nil, List.nil_append, List.cons_append, List.getElem?_cons_zero, List.getElem?_cons_succ, List.set_cons_zero, List.set_cons_succ, Nat.reduceAdd, Nat.reduceSub, if_true, if_false, ite_true, ite_false, Bool.not_true, Bool.not_false, Bool.and_true, Bool.and_false, Bool.false_eq_true, reduceIte, fin_same, finE_same, fin_new, atI_0, atI_1, atI_2, eqW_ofs, look_ofs, look_nil, dspC, newDc, inW, Option.isSome_some, Option.isSome_none, itM, forM, items_dl, items_dt, methL, methD, arg0, arg1, arg2, appendW, popW, listW, get_new, set_new, isLst_new, pow109, String.reduceBEq, String.reduceEq, Bool.false_or, Bool.true_or, Bool.or_false, Bool.or_true]) hfr]
      have h2 : [D.str n] ++ encS F = encS (n :: F) := rfl
      simp only [addW, asD_d, h2]
      have hz' : (encS (n :: F)).length ≤ sizeLine := hz
      simp only [newL, if_pos hz', Bool.false_eq_true, if_false, Res.bind_ok, items_dl]
    have hL := loop_any (t := .name 2) (body := (ifM (orT (tvM (binM (inW true) (varM 2) (varM 0))) (tvM (binM (isNonB true) (callF s_p_fault (consA (varM 0) (consA (varM 2) nilA))) (conM .non)))) (retM (conM (.bl false))) passS)) (st := st ++ [c]) (w := .d (.bl false))
      (fun env => ∃ x, env = [some w, some (.d (.str n)), x]) (fun x => match x with | .str m => !(okM P m) | _ => false) (encS (n :: F)) [some w, some (.d (.str n)), none] (fun x hxm env ⟨y, he⟩ => by
        obtain ⟨m, hm, rfl⟩ := List.mem_map.mp hxm
        subst he
        refine ⟨_, rfl, ?_⟩
        show ((!(okM P m)) = true ∧ _) ∨ ((!(okM P m)) = false ∧ _)
        cases qm : lookA m P with
        | none =>
          have hlm : look m (encP P) = none := by rw [lookP, qm]; rfl
          left
          refine ⟨by simp [okM, qm], ?_⟩
          simp only [szs, fnM, rawM, seqM, ifM, tvM, truM, binM, unM, appM, consA, nilA, varM, conM, retM, retN, asgM, expM, raiseM, passS, callF, app1, app2, noExc, isExc_d, isExc_c, bindS_ok, bindS_err, bindS_stuck, Res.bind_ok, Res.bind_err, Res.bind_stuck, onBl_bl, andT, orT, notT, andV, orV, notV, tupM, lstM, toDs, toD, asD_d, asD_new, frzW_d, newT, newL, slM, slW, someO, noneO, ixW, addW, subW, mulW, modW, cmpW, negW, lenW, intW, tabW, isNonB, isNonW, isNon_d, List.map_cons, List.map_nil, List.length_cons, List.length_nil, List.replicate, List.append_nil, List.nil_append, List.cons_append, List.getElem?_cons_zero, List.getElem?_cons_succ, List.set_cons_zero, List.set_cons_succ, Nat.reduceAdd, Nat.reduceSub, if_true, if_false, ite_true, ite_false, Bool.not_true, Bool.not_false, Bool.and_true, Bool.and_false, Bool.false_eq_true, reduceIte, fin_same, finE_same, fin_new, atI_0, atI_1, atI_2, eqW_ofs, look_ofs, look_nil, dspC, newDc, inW, Option.isSome_some, Option.isSome_none, itM, forM, items_dl, items_dt, methL, methD, arg0, arg1, arg2, appendW, popW, listW, get_new, set_new, isLst_new, pow109, String.reduceBEq, String.reduceEq, Bool.false_or, Bool.true_or, Bool.or_false, Bool.or_true, hw2, hlm]
        | some bm =>
          have hlm : look m (encP P) = some bm.enc := by rw [lookP, qm]; rfl
          have ef := fault_ok w (st ++ [c]) P m bm hw2 hP qm
          by_cases hwd : (wayK (telP P) bm).2 = ""
          · right
            rw [if_pos hwd] at ef
            refine ⟨by simp [okM, qm, hwd], _, by simp only [szs, fnM, rawM, seqM, ifM, tvM, truM, binM, unM, appM, consA, nilA, varM, conM, retM, retN, asgM, expM, raiseM, passS, callF, app1, app2, noExc, isExc_d, isExc_c, bindS_ok, bindS_err, bindS_stuck, Res.bind_ok, Res.bind_err, Res.bind_stuck, onBl_bl, andT, orT, notT, andV, orV, notV, tupM, lstM, toDs, toD, asD_d, asD_new, frzW_d, newT, newL, slM, slW, someO, noneO, ixW, addW, subW, mulW, modW, cmpW, negW, lenW, intW, tabW, isNonB, isNonW, isNon_d, List.map_cons, List.map_nil, List.length_cons, List.length_nil, List.replicate, List.append_nil, List.nil_append, List.cons_append, List.getElem?_cons_zero, List.getElem?_cons_succ, List.set_cons_zero, List.set_cons_succ, Nat.reduceAdd, Nat.reduceSub, if_true, if_false, ite_true, ite_false, Bool.not_true, Bool.not_false, Bool.and_true, Bool.and_false, Bool.false_eq_true, reduceIte, fin_same, finE_same, fin_new, atI_0, atI_1, atI_2, eqW_ofs, look_ofs, look_nil, dspC, newDc, inW, Option.isSome_some, Option.isSome_none, itM, forM, items_dl, items_dt, methL, methD, arg0, arg1, arg2, appendW, popW, listW, get_new, set_new, isLst_new, pow109, String.reduceBEq, String.reduceEq, Bool.false_or, Bool.true_or, Bool.or_false, Bool.or_true, hw2, hlm, hx, ef]; rfl, _, rfl⟩
          · left
            rw [if_neg hwd] at ef
            refine ⟨by simp [okM, qm, hwd], by simp only [szs, fnM, rawM, seqM, ifM, tvM, truM, binM, unM, appM, consA, nilA, varM, conM, retM, retN, asgM, expM, raiseM, passS, callF, app1, app2, noExc, isExc_d, isExc_c, bindS_ok, bindS_err, bindS_stuck, Res.bind_ok, Res.bind_err, Res.bind_stuck, onBl_bl, andT, orT, notT, andV, orV, notV, tupM, lstM, toDs, toD, asD_d, asD_new, frzW_d, newT, newL, slM, slW, someO, noneO, ixW, addW, subW, mulW, modW, cmpW, negW, lenW, intW, tabW, isNonB, isNonW, isNon_d, List.map_cons, List.map_nil, List.length_cons, List.length_nil, List.replicate, List.append_nil, List.nil_append, List.cons_append, List.getElem?_cons_zero, List.getElem?_cons_succ, List.set_cons_zero, List.set_cons_succ, Nat.reduceAdd, Nat.reduceSub, if_true, if_false, ite_true, ite_false, Bool.not_true, Bool.not_false, Bool.and_true, Bool.and_false, Bool.false_eq_true, reduceIte, fin_same, finE_same, fin_new, atI_0, atI_1, atI_2, eqW_ofs, look_ofs, look_nil, dspC, newDc, inW, Option.isSome_some, Option.isSome_none, itM, forM, items_dl, items_dt, methL, methD, arg0, arg1, arg2, appendW, popW, listW, get_new, set_new, isLst_new, pow109, String.reduceBEq, String.reduceEq, Bool.false_or, Bool.true_or, Bool.or_false, Bool.or_true, hw2, hlm, hx, ef]⟩) ⟨none, rfl⟩
    have hall : (encS (n :: F)).any (fun x => match x with | .str m => !(okM P m) | _ => false) = !((n :: F).all (okM P)) := by
      rw [List.any_map, List.all_eq_not_any_not, Bool.not_not]; rfl
    have hlb := letBy_all (P := P) (n := n) (F := n :: F) (fun m => by rw [List.mem_cons, hF])
    rw [hall] at hL
    rcases hL with ⟨h1, h2⟩ | ⟨h1, env', h2, _⟩
    · refine ⟨false, ⟨fun h => (by cases h), fun h => ?_⟩, (fnM_ret (st' := st ++ [c]) rfl ?_).trans (fin_grow st _ c (fun fs h => by have h' : Cell.frz (.lst (encS F)) = Cell.obj fs := h; cases h'))⟩
      · rw [hlb.mpr h] at h1; cases h1
      · refine (seq_nx (e := [some w, some (.d (.str n)), none]) (s := st) (by simp only [szs, fnM, rawM, seqM, ifM, tvM, truM, binM, unM, appM, consA, nilA, varM, conM, retM, retN, asgM, expM, raiseM, passS, callF, app1, app2, noExc, isExc_d, isExc_c, bindS_ok, bindS_err, bindS_stuck, Res.bind_ok, Res.bind_err, Res.bind_stuck, onBl_bl, andT, orT, notT, andV, orV, notV, tupM, lstM, toDs, toD, asD_d, asD_new, frzW_d, newT, newL, slM, slW, someO, noneO, ixW, addW, subW, mulW, modW, cmpW, negW, lenW, intW, tabW, isNonB, isNonW, isNon_d, List.map_cons, List.map_nil, List.length_cons, List.length_nil, List.replicate, List.append_nil, List.nil_append, List.cons_append, List.getElem?_cons_zero, List.getElem?_cons_succ, List.set_cons_zero, List.set_cons_succ, Nat.reduceAdd, Nat.reduceSub, if_true, if_false, ite_true, ite_false, Bool.not_true, Bool.not_false, Bool.and_true, Bool.and_false, Bool.false_eq_true, reduceIte, fin_same, finE_same, fin_new, atI_0, atI_1, atI_2, eqW_ofs, look_ofs, look_nil, dspC, newDc, inW, Option.isSome_some, Option.isSome_none, itM, forM, items_dl, items_dt, methL, methD, arg0, arg1, arg2, appendW, popW, listW, get_new, set_new, isLst_new, pow109, String.reduceBEq, String.reduceEq, Bool.false_or, Bool.true_or, Bool.or_false, Bool.or_true, hw, hlk])).trans (seq_ret ?_)
        unfold forM
        have eit' : itM (binM (addW false) (lstM false (consA (varM 1) nilA)) (frM (callF s_p_reached (consA (varM 0) (consA (varM 1) nilA))))) [some w, some (.d (.str n)), none] st = _ := eit
        rw [eit']
        exact h2
    · refine ⟨true, ⟨fun _ => hlb.mp (by cases q2 : (n :: F).all (okM P) with | true => rfl | false => rw [q2] at h1; cases h1), fun _ => rfl⟩, (fnM_ret (st' := st ++ [c]) rfl ?_).trans (fin_grow st _ c (fun fs h => by have h' : Cell.frz (.lst (encS F)) = Cell.obj fs := h; cases h'))⟩
      refine (seq_nx (e := [some w, some (.d (.str n)), none]) (s := st) (by simp only [szs, fnM, rawM, seqM, ifM, tvM, truM, binM, unM, appM, consA, nilA, varM, conM, retM, retN, asgM, expM, raiseM, passS, callF, app1, app2, noExc, isExc_d, isExc_c, bindS_ok, bindS_err, bindS_stuck, Res.bind_ok, Res.bind_err, Res.bind_stuck, onBl_bl, andT, orT, notT, andV, orV, notV, tupM, lstM, toDs, toD, asD_d, asD_new, frzW_d, newT, newL, slM, slW, someO, noneO, ixW, addW, subW, mulW, modW, cmpW, negW, lenW, intW, tabW, isNonB, isNonW, isNon_d, List.map_cons, List.map_nil, List.length_cons, List.length_nil, List.replicate, List.append_nil, List.nil_append, List.cons_append, List.getElem?_cons_zero, List.getElem?_cons_succ, List.set_cons_zero, List.set_cons_succ, Nat.reduceAdd, Nat.reduceSub, if_true, if_false, ite_true, ite_false, Bool.not_true, Bool.not_false, Bool.and_true, Bool.and_false, Bool.false_eq_true, reduceIte, fin_same, finE_same, fin_new, atI_0, atI_1, atI_2, eqW_ofs, look_ofs, look_nil, dspC, newDc, inW, Option.isSome_some, Option.isSome_none, itM, forM, items_dl, items_dt, methL, methD, arg0, arg1, arg2, appendW, popW, listW, get_new, set_new, isLst_new, pow109, String.reduceBEq, String.reduceEq, Bool.false_or, Bool.true_or, Bool.or_false, Bool.or_true, hw, hlk])).trans ?_
      refine (seq_nx (e := env') (s := st ++ [c]) ?_).trans (by simp only [szs, fnM, rawM, seqM, ifM, tvM, truM, binM, unM, appM, consA, nilA, varM, conM, retM, retN, asgM, expM, raiseM, passS, callF, app1, app2, noExc, isExc_d, isExc_c, bindS_ok, bindS_err, bindS_stuck, Res.bind_ok, Res.bind_err, Res.bind_stuck, onBl_bl, andT, orT, notT, andV, orV, notV, tupM, lstM, toDs, toD, asD_d, asD_new, frzW_d, newT, newL, slM, slW, someO, noneO, ixW, addW, subW, mulW, modW, cmpW, negW, lenW, intW, tabW, isNonB, isNonW, isNon_d, List.map_cons, List.map_nil, List.length_cons, List.length_nil, List.replicate, List.append_nil, List.nil_append, List.cons_append, List.getElem?_cons_zero, List.getElem?_cons_succ, List.set_cons_zero, List.set_cons_succ, Nat.reduceAdd, Nat.reduceSub, if_true, if_false, ite_true, ite_false, Bool.not_true, Bool.not_false, Bool.and_true, Bool.and_false, Bool.false_eq_true, reduceIte, fin_same, finE_same, fin_new, atI_0, atI_1, atI_2, eqW_ofs, look_ofs, look_nil, dspC, newDc, inW, Option.isSome_some, Option.isSome_none, itM, forM, items_dl, items_dt, methL, methD, arg0, arg1, arg2, appendW, popW, listW, get_new, set_new, isLst_new, pow109, String.reduceBEq, String.reduceEq, Bool.false_or, Bool.true_or, Bool.or_false, Bool.or_true])
      unfold forM
      rw [eit]
      exact h2
end Py

namespace Py
open PySem L2
abbrev S4 (P : Prg) (t : Int) (G : List (Str × D)) : Store := [tc t, .dct (encP P), .frz (.dct (encP P)), .dct G]
end Py

namespace Py
open PySem L2
/-! ### values that rows make -/
theorem show_ok {n : Int} (h0 : 0 ≤ n) (h1 : n < 1000000000) : (Val.s (Str.ofString (toString n))).ok := by
  refine ⟨strOk_of _, ?_⟩
  have : (Str.ofString (toString n)).length ≤ 10 := PyProof.Rows.toString_length_le h0 (by decide) (by omega)
  omega
theorem reck_ok (o : Op) (a b : Val) (ha : a.ok) (hb : b.ok) : (reck o a b).ok := by
  have hm : ∀ x : Int, (Val.i (x % 1000000000)).ok := fun x => ⟨Int.emod_nonneg _ (by decide), Int.emod_lt_of_pos _ (by decide)⟩
  cases o <;> cases a <;> cases b <;> first | exact hm _ | exact ha | skip
  · show 0 ≤ (if _ then (1 : Int) else 0) ∧ _
    split <;> omega
  · rename_i x y
    refine ⟨strOk_cut _ _ (strOk_append ha.1 hb.1), ?_⟩
    show (List.toArray (((x ++ y).cps.toList.drop _).take _)).size ≤ 60
    rw [List.size_toArray, List.length_take]
    have : HT.sIx (x ++ y).length (x ++ y).length (some 60) ≤ 60 := by
      rw [show (60 : Int) = ((60 : Nat) : Int) from rfl, HT.sIx_nat]; omega
    omega
theorem doneV_ok (r : Row) (vs : List Val) (hr : r.ok) (hv : ∀ v ∈ vs, v.ok) (q : need (vs.map Val.kd) r.wants = none) : ∀ v ∈ doneV r vs, v.ok := by
  have one : ∀ (us : List Val) (x : Val), (∀ v ∈ us, v.ok) → x.ok → ∀ v ∈ us ++ [x], v.ok := fun us x h hx v hm => by
    rcases List.mem_append.mp hm with z | z
    · exact h v z
    · rw [List.mem_singleton] at z; subst z; exact hx
  cases r with
  | num v => exact one vs _ hv hr
  | text t => exact one vs _ hv hr
  | copy k =>
    have hk : k < vs.reverse.length := by
      have := (need_none q).1
      simp [Row.wants] at this
      rw [List.length_reverse]; omega
    refine one vs _ hv ?_
    rw [List.getD_eq_getElem?_getD, List.getElem?_eq_getElem hk]
    exact hv _ (List.mem_reverse.mp (List.getElem_mem hk))
  | op o =>
    have m : ∀ {us ys : List Val}, vs = us ++ ys → ∀ v ∈ us, v.ok := fun e v h => hv v (by rw [e]; exact List.mem_append_left _ h)
    have m2 : ∀ {us ys : List Val}, vs = us ++ ys → ∀ v ∈ ys, v.ok := fun e v h => hv v (by rw [e]; exact List.mem_append_right _ h)
    cases o with
    | drop =>
      obtain ⟨us, a, e, _⟩ := top1 q
      subst e
      simpa [doneV] using m rfl
    | long =>
      obtain ⟨us, a, e, ha⟩ := top1 q
      have ha := bad_kd ha
      cases a with
      | i _ => cases ha
      | s t =>
        subst e
        have ht : (Val.s t).ok := m2 rfl _ (by simp)
        have := one us (.i t.length) (m rfl) ⟨by omega, by have := ht.2; omega⟩
        simpa [doneV] using this
    | shw =>
      obtain ⟨us, a, e, ha⟩ := top1 q
      have ha := bad_kd ha
      cases a with
      | s _ => cases ha
      | i n =>
        subst e
        have hn : (Val.i n).ok := m2 rfl _ (by simp)
        have := one us (.s (toString n)) (m rfl) (show_ok hn.1 hn.2)
        simpa [doneV] using this
    | swap =>
      obtain ⟨us, a, b, e, _, _⟩ := top2 q
      subst e
      have h1 := m2 rfl a (by simp)
      have h2 := m2 rfl b (by simp)
      have := one _ a (one us b (m rfl) h2) h1
      simpa [doneV] using this
    | add =>
      obtain ⟨us, a, b, e, _, _⟩ := top2 q
      subst e
      have := one us _ (m rfl) (reck_ok .add a b (m2 rfl a (by simp)) (m2 rfl b (by simp)))
      simpa [doneV] using this
    | mul =>
      obtain ⟨us, a, b, e, _, _⟩ := top2 q
      subst e
      have := one us _ (m rfl) (reck_ok .mul a b (m2 rfl a (by simp)) (m2 rfl b (by simp)))
      simpa [doneV] using this
    | less =>
      obtain ⟨us, a, b, e, _, _⟩ := top2 q
      subst e
      have := one us _ (m rfl) (reck_ok .less a b (m2 rfl a (by simp)) (m2 rfl b (by simp)))
      simpa [doneV] using this
    | join =>
      obtain ⟨us, a, b, e, _, _⟩ := top2 q
      subst e
      have := one us _ (m rfl) (reck_ok .join a b (m2 rfl a (by simp)) (m2 rfl b (by simp)))
      simpa [doneV] using this
/-! ### the machine, typed: the innermost frame first -/
abbrev Frs := List (Str × Nat)
def leaveR (P : Prg) : Frs → Frs
  | [] => []
  | (n, p) :: r => match lookA n P with
    | some b => if p = b.rows.length then leaveR P r else (n, p) :: r
    | none => (n, p) :: r
def enterT (P : Prg) (m : Str) (vs : List Val) (n : Str) (p : Nat) (r : Frs) : Except Exc (List Val × Frs) := match lookA m P with
  | none => .error .block
  | some _ => .ok (vs, leaveR P ((m, 0) :: (n, p + 1) :: r))
def stepT (P : Prg) (vs : List Val) (n : Str) (p : Nat) (r : Frs) (row : Rw) : Except Exc (List Val × Frs) := match row with
  | .plain r0 => match need (vs.map Val.kd) r0.wants with
    | some e => .error e
    | none => .ok (doneV r0 vs, leaveR P ((n, p + 1) :: r))
  | .call m => enterT P m vs n p r
  | .iff a c => match need (vs.map Val.kd) [some .num] with
    | some e => .error e
    | none => enterT P (if vs.getLast? = some (.i 0) then c else a) vs.dropLast n p r
def FrOk (P : Prg) (fs : Frs) : Prop := ∀ f ∈ fs, ∃ b, lookA f.1 P = some b ∧ f.2 ≤ b.rows.length
/-- the innermost one is not through -/
def HdOk (P : Prg) (fs : Frs) : Prop := match fs with
  | [] => True
  | (n, p) :: _ => ∃ b, lookA n P = some b ∧ p < b.rows.length
theorem leave_hd {P : Prg} : ∀ {fs : Frs}, FrOk P fs → HdOk P (leaveR P fs)
  | [], _ => trivial
  | (n, p) :: r, h => by
    obtain ⟨b, hb, hp⟩ := h (n, p) List.mem_cons_self
    simp only at hb hp
    unfold leaveR
    rw [hb]
    simp only
    by_cases e : p = b.rows.length
    · rw [if_pos e]; exact leave_hd fun f hf => h f (List.mem_cons_of_mem _ hf)
    · rw [if_neg e]; exact ⟨b, hb, by omega⟩
theorem leave_fr {P : Prg} : ∀ {fs : Frs}, FrOk P fs → FrOk P (leaveR P fs)
  | [], h => h
  | (n, p) :: r, h => by
    obtain ⟨b, hb, hp⟩ := h (n, p) List.mem_cons_self
    simp only at hb hp
    unfold leaveR
    rw [hb]
    simp only
    by_cases e : p = b.rows.length
    · rw [if_pos e]; exact leave_fr fun f hf => h f (List.mem_cons_of_mem _ hf)
    · rw [if_neg e]; exact h
theorem leave_len {P : Prg} : ∀ {fs : Frs}, (leaveR P fs).length ≤ fs.length
  | [] => Nat.le_refl _
  | (n, p) :: r => by
    unfold leaveR
    split
    · split
      · have := leave_len (P := P) (fs := r); rw [List.length_cons]; omega
      · exact Nat.le_refl _
    · exact Nat.le_refl _
/-! ### never stuck -/
inductive Tot (P : Prg) (Rz : Str → Prop) (outs : List Kd) : Frs → List Kd → Prop
  | nil : Tot P Rz outs [] outs
  | cons {n : Str} {p : Nat} {r : Frs} {b : Blk} {bt k : List Kd} : lookA n P = some b → Rz n → p ≤ b.rows.length → runK (telP P) k (b.rows.drop p) = some b.outs → Tot P Rz outs r (bt ++ b.outs) → Tot P Rz outs ((n, p) :: r) (bt ++ k)
theorem Tot.fr {P : Prg} {Rz : Str → Prop} {outs : List Kd} {fs : Frs} {ks : List Kd} (h : Tot P Rz outs fs ks) : FrOk P fs := by
  induction h with
  | nil => exact fun f hf => absurd hf List.not_mem_nil
  | cons h1 _ h3 _ _ ih =>
    intro f hf
    rcases List.mem_cons.mp hf with e | hf
    · subst e; exact ⟨_, h1, h3⟩
    · exact ih f hf
theorem Tot.leave {P : Prg} {Rz : Str → Prop} {outs : List Kd} : ∀ {fs : Frs} {ks : List Kd}, Tot P Rz outs fs ks → Tot P Rz outs (leaveR P fs) ks
  | [], _, h => h
  | (n, p) :: r, _, .cons (b := b) (bt := bt) (k := k) h1 h2 h3 h4 h5 => by
    unfold leaveR
    rw [h1]
    simp only
    by_cases e : p = b.rows.length
    · rw [if_pos e]
      rw [e, List.drop_length] at h4
      simp only [runK, Option.some.injEq] at h4
      subst h4
      exact Tot.leave h5
    · rw [if_neg e]; exact .cons h1 h2 h3 h4 h5
end Py

namespace Py
open PySem L2
theorem rawM_nx {a n : Nat} {body : MS} {ws : List W} {st st' : Store} {env : Env} (hl : ws.length = a) (h : body (ws.map some ++ List.replicate (n - a) none) st = .nx env st') : rawM a n body ws st = .ok (.d .non) st' := by
  unfold rawM; rw [if_pos hl, h]
theorem rawM_ret {a n : Nat} {body : MS} {ws : List W} {st st' : Store} {w : W} (hl : ws.length = a) (h : body (ws.map some ++ List.replicate (n - a) none) st = .ret w st') (hw : w.isExc = false) : rawM a n body ws st = .ok w st' := by
  unfold rawM; rw [if_pos hl, h]; simp [hw]
theorem rawM_err {a n : Nat} {body : MS} {ws : List W} {st st' : Store} {env : Env} {c : Exc} (hl : ws.length = a) (h : body (ws.map some ++ List.replicate (n - a) none) st = .err c env st') : rawM a n body ws st = .err c st' := by
  unfold rawM; rw [if_pos hl, h]
abbrev encFr (p : Str × Nat) : D := .tup [.str p.1, .int p.2]
abbrev encF (fs : Frs) : List D := fs.reverse.map encFr
theorem encF_cons (n : Str) (p : Nat) (r : Frs) : encF ((n, p) :: r) = encF r ++ [.tup [.str n, .int p]] := by simp
abbrev objF (pw : W) (s f : Nat) : List (Str × W) := [("program", pw), ("stack", .c s), ("frames", .c f)]
structure Mat (st : Store) (j s f : Nat) (pw : W) (P : Prg) (vs : List Val) (fs : Frs) : Prop where
  obj : st[j]? = some (.obj (objF pw s f))
  stk : st[s]? = some (.lst (encV vs))
  frm : st[f]? = some (.lst (encF fs))
  pr : asD st pw = some (.dct (encP P))
  ne : s ≠ f
  pc : ∀ i, pw = .c i → ∃ kvs, st[i]? = some (.dct kvs) ∨ st[i]? = some (.frz (.dct kvs))
/-- other cells stay -/
def Pres (j f : Nat) (st st' : Store) : Prop := st.length ≤ st'.length ∧ ∀ i, i < st.length → i ≠ j → i ≠ f → st'[i]? = st[i]?
theorem Pres.refl {j f : Nat} {st : Store} : Pres j f st st := ⟨Nat.le_refl _, fun _ _ _ _ => rfl⟩
theorem Pres.trans {j f : Nat} {a b c : Store} (h : Pres j f a b) (g : Pres j f b c) : Pres j f a c := ⟨Nat.le_trans h.1 g.1, fun i hi h1 h2 => (g.2 i (Nat.lt_of_lt_of_le hi h.1) h1 h2).trans (h.2 i hi h1 h2)⟩
theorem Pres.app {j f : Nat} {st g : Store} : Pres j f st (st ++ g) := ⟨by simp, fun i hi _ _ => List.getElem?_append_left hi⟩
theorem Pres.setF {j f : Nat} {st : Store} {c : Cell} : Pres j f st (st.set f c) := ⟨by simp, fun i _ _ h => List.getElem?_set_ne (fun e => h e.symm)⟩
theorem Pres.setJ {j f : Nat} {st : Store} {c : Cell} : Pres j f st (st.set j c) := ⟨by simp, fun i _ h _ => List.getElem?_set_ne (fun e => h e.symm)⟩
section
variable {st : Store} {j s f : Nat} {pw : W} {P : Prg} {vs : List Val} {fs : Frs}
theorem Mat.lt (h : Mat st j s f pw P vs fs) : j < st.length ∧ s < st.length ∧ f < st.length := ⟨(List.getElem?_eq_some_iff.mp h.obj).1, (List.getElem?_eq_some_iff.mp h.stk).1, (List.getElem?_eq_some_iff.mp h.frm).1⟩
theorem Mat.jf (h : Mat st j s f pw P vs fs) : j ≠ f := fun e => by have := h.obj; rw [e, h.frm] at this; cases this
theorem Mat.px (h : Mat st j s f pw P vs fs) : pw.isExc = false := noExc_of h.pr
theorem Mat.fF (h : Mat st j s f pw P vs fs) : fldW "frames" (.c j) st = .ok (.c f) st := by
  unfold fldW; simp [h.obj, getF, ofString_inj]
theorem Mat.fS (h : Mat st j s f pw P vs fs) : fldW "stack" (.c j) st = .ok (.c s) st := by
  unfold fldW; simp [h.obj, getF, ofString_inj]
theorem Mat.fP (h : Mat st j s f pw P vs fs) : fldW "program" (.c j) st = .ok pw st := by
  unfold fldW; simp [h.obj, getF]
theorem Mat.aF (h : Mat st j s f pw P vs fs) : asD st (.c f) = some (.lst (encF fs)) := by unfold asD; simp only; rw [h.frm]
theorem Mat.aS (h : Mat st j s f pw P vs fs) : asD st (.c s) = some (.lst (encV vs)) := by unfold asD; simp only; rw [h.stk]
theorem Mat.lF (h : Mat st j s f pw P vs fs) : isLst (.c f) st = true := by unfold isLst; rw [h.aF]
theorem asD_set_ne {st : Store} {i : Nat} {c : Cell} {w : W} {d : D} (h : asD st w = some d) (hw : ∀ k, w = .c k → k ≠ i) : asD (st.set i c) w = some d := by
  cases w with
  | d x => exact h
  | exc => exact h
  | c k =>
    unfold asD at h ⊢
    simp only at h ⊢
    rw [List.getElem?_set_ne (fun e => hw k rfl e.symm)]
    exact h
theorem Mat.pF (h : Mat st j s f pw P vs fs) : ∀ k, pw = .c k → k ≠ f := fun k e hk => by
  obtain ⟨kvs, q | q⟩ := h.pc k e <;> (rw [hk, h.frm] at q; cases q)
theorem Mat.pJ (h : Mat st j s f pw P vs fs) : ∀ k, pw = .c k → k ≠ j := fun k e hk => by
  obtain ⟨kvs, q | q⟩ := h.pc k e <;> (rw [hk, h.obj] at q; cases q)
theorem Mat.setF (h : Mat st j s f pw P vs fs) (fs' : Frs) : Mat (st.set f (.lst (encF fs'))) j s f pw P vs fs' where
  obj := by rw [List.getElem?_set_ne (fun e => h.jf e.symm)]; exact h.obj
  stk := by rw [List.getElem?_set_ne (fun e => h.ne e.symm)]; exact h.stk
  frm := by rw [List.getElem?_set_self h.lt.2.2]
  pr := asD_set_ne h.pr h.pF
  ne := h.ne
  pc k e := by
    obtain ⟨kvs, q⟩ := h.pc k e
    exact ⟨kvs, by rw [List.getElem?_set_ne (fun e' => h.pF k e e'.symm)]; exact q⟩
theorem Mat.app (h : Mat st j s f pw P vs fs) (g : Store) : Mat (st ++ g) j s f pw P vs fs where
  obj := by rw [List.getElem?_append_left h.lt.1]; exact h.obj
  stk := by rw [List.getElem?_append_left h.lt.2.1]; exact h.stk
  frm := by rw [List.getElem?_append_left h.lt.2.2]; exact h.frm
  pr := asD_app h.pr g
  ne := h.ne
  pc k e := by
    obtain ⟨kvs, q⟩ := h.pc k e
    have hk : k < st.length := by rcases q with q | q <;> exact (List.getElem?_eq_some_iff.mp q).1
    exact ⟨kvs, by rw [List.getElem?_append_left hk]; exact q⟩
theorem Mat.setS (h : Mat st j s f pw P vs fs) {s' : Nat} {vs' : List Val} (hs : st[s']? = some (.lst (encV vs'))) (hne : s' ≠ f) : Mat (st.set j (.obj (objF pw s' f))) j s' f pw P vs' fs where
  obj := by rw [List.getElem?_set_self h.lt.1]
  stk := by
    have : j ≠ s' := fun e => by have := h.obj; rw [e, hs] at this; cases this
    rw [List.getElem?_set_ne this]; exact hs
  frm := by rw [List.getElem?_set_ne h.jf]; exact h.frm
  pr := asD_set_ne h.pr h.pJ
  ne := hne
  pc k e := by
    obtain ⟨kvs, q⟩ := h.pc k e
    exact ⟨kvs, by rw [List.getElem?_set_ne (fun e' => h.pJ k e e'.symm)]; exact q⟩
theorem lastF (n : Str) (p : Nat) (r : Frs) : atI (encF ((n, p) :: r)) (-1) = some (.tup [.str n, .int p]) := by
  rw [encF_cons]
  have := atI_neg (encF r ++ [D.tup [.str n, .int p]]) 1 (by decide) (by simp)
  rw [show (-((1 : Nat) : Int)) = -1 from rfl] at this
  rw [this]
  simp
noncomputable abbrev lvC : M Bool := (andT (truM (unM (fldW "frames") (varM 0))) (tvM (binM (eqW false) (binM ixW (binM ixW (unM (fldW "frames") (varM 0)) (unM negW (conM (.int 1)))) (conM (.int 1))) (appM (app1 lenW) (consA (binM ixW (binM ixW (unM (fldW "program") (varM 0)) (binM ixW (binM ixW (unM (fldW "frames") (varM 0)) (unM negW (conM (.int 1)))) (conM (.int 0)))) (conM (.int 2))) nilA)))))
noncomputable abbrev lvB : MS := (expM (methL (arg0 popW) (unM (fldW "frames") (varM 0)) nilA))
theorem leave_loop : ∀ (fs : Frs) (st : Store) (fuel : Nat), Mat st j s f pw P vs fs → FrOk P fs → fs.length < fuel → whileM lvC lvB fuel [some (.c j)] st = .nx [some (.c j)] (st.set f (.lst (encF (leaveR P fs))))
  | [], st, fuel, h, _, hf => by
    obtain ⟨m, rfl⟩ : ∃ m, fuel = m + 1 := ⟨fuel - 1, by simp at hf; omega⟩
    have hc : lvC [some (.c j)] st = .ok false st := by
      have hF := h.fF
      have hA : asD st (.c f) = some (.lst []) := h.aF
      show andT _ _ _ _ = _
      unfold andT truM
      simp only [unM, varM, List.getElem?_cons_zero, Res.bind_ok, hF, hA, List.isEmpty, List.reverse_nil, List.map_nil, Bool.not_true, Bool.false_eq_true, if_false]
    rw [whileM_succ, hc]
    simp only [bindS_ok, Bool.false_eq_true, if_false, leaveR]
    rw [show (encF []) = ([] : List D) from rfl, set_self (by exact h.frm)]
  | (n, p) :: r, st, fuel, h, hfr, hf => by
    obtain ⟨m, rfl⟩ : ∃ m, fuel = m + 1 := ⟨fuel - 1, by simp at hf; omega⟩
    obtain ⟨b, hb, hp⟩ := hfr (n, p) List.mem_cons_self
    simp only at hb hp
    have hlk : look n (encP P) = some (.tup [.tup (encK b.ins), .tup (encK b.outs), .lst (encR b.rows)]) := by rw [lookP, hb]; rfl
    have hlR : ((encR b.rows).length : Int) = (b.rows.length : Int) := by rw [List.length_map]
    have hF := h.fF
    have hA := h.aF
    have hPp := h.fP
    have hpr := h.pr
    have hl := lastF n p r
    have hne : (encF ((n, p) :: r)).isEmpty = false := by rw [encF_cons]; cases encF r <;> rfl
    have hc : lvC [some (.c j)] st = .ok (((p : Int) == (b.rows.length : Int))) st := by
      show andT _ _ _ _ = _
      unfold andT truM
      simp only [unM, varM, List.getElem?_cons_zero, Res.bind_ok, hF, hA, hne, Bool.not_false, if_true, tvM, binM, conM, negW, asD_d, ixW, Int.reduceNeg, hl, hPp, hpr, hlk, atI_0, atI_1, atI_2, appM, app1, consA, nilA, lenW, hlR, eqW_int, Bool.false_eq_true, if_false, onBl_bl]
    rw [whileM_succ, hc]
    unfold leaveR
    rw [hb]
    simp only [bindS_ok]
    by_cases e : p = b.rows.length
    · have e' : ((p : Int) == (b.rows.length : Int)) = true := by rw [e]; simp
      rw [e', if_pos e]
      simp only [if_true]
      have hgl : (encF ((n, p) :: r)).getLast? = some (.tup [.str n, .int p]) := by rw [encF_cons]; simp
      have hdl : (encF ((n, p) :: r)).dropLast = encF r := by rw [encF_cons]; simp
      have hL := h.lF
      have hfrm := h.frm
      have hB : lvB [some (.c j)] st = .nx [some (.c j)] (st.set f (.lst (encF r))) := by
        simp only [lvB, expM, methL, unM, varM, List.getElem?_cons_zero, Res.bind_ok, hF, hL, if_true, nilA, arg0, popW, hfrm, hgl, hdl, bindS_ok]
      rw [hB]
      simp only
      rw [leave_loop r _ m (h.setF r) (fun g hg => hfr g (List.mem_cons_of_mem _ hg)) (by simp at hf; omega), set_set']
    · have e' : ((p : Int) == (b.rows.length : Int)) = false := by rw [beq_eq_false_iff_ne]; omega
      rw [e', if_neg e]
      simp only [Bool.false_eq_true, if_false]
      rw [set_self h.frm]
theorem leave_ok (h : Mat st j s f pw P vs fs) (hfr : FrOk P fs) (hl : fs.length ≤ 900000) : s_m_leave [.c j] st = .ok (.d .non) (st.set f (.lst (encF (leaveR P fs)))) := by
  exact rawM_nx rfl (leave_loop fs st 1000000 h hfr (by omega))
theorem over_ok (h : Mat st j s f pw P vs fs) : s_m_over [.c j] st = .ok (.d (.bl (fs.isEmpty))) st := by
  have hF := h.fF
  have hA := h.aF
  have hl : ((encF fs).length : Int) = (fs.length : Int) := by rw [List.length_map, List.length_reverse]
  refine rawM_ret rfl (?_ : b_m_over _ st = _) rfl
  unfold b_m_over
  have hb : ((fs.length : Int) == 0) = fs.isEmpty := by cases fs <;> simp <;> omega
  show retM _ [some (.c j)] st = _
  simp only [retM, binM, appM, app1, consA, nilA, unM, varM, conM, List.getElem?_cons_zero, Res.bind_ok, hF, lenW, hA, hl, eqW_int, hb, bindS_ok, Bool.false_eq_true, if_false]
theorem meth_ok {m : Str} {F : Fn} {o : M W} {env : Env} {pw' : W} {s' f' : Nat} {st1 : Store} (ho : o env st = .ok (.c j) st1) (h1 : st1[j]? = some (.obj (objF pw' s' f'))) (hm : getF m (objF pw' s' f') = none) : methM m F o env st = F [.c j] st1 := by
  unfold methM; rw [ho, Res.bind_ok]; simp only [h1, hm]
theorem nm_leave (pw : W) (s f : Nat) : getF "leave" (objF pw s f) = none := by simp [getF, ofString_inj]
theorem nm_over (pw : W) (s f : Nat) : getF "over" (objF pw s f) = none := by simp [getF, ofString_inj]
theorem nm_step (pw : W) (s f : Nat) : getF "step" (objF pw s f) = none := by simp [getF, ofString_inj]
end
theorem init_ok (st : Store) (pw w : W) (P : Prg) (n : Str) (b : Blk) (vs : List Val) (hpr : asD st pw = some (.dct (encP P))) (hpc : ∀ i, pw = .c i → ∃ kvs, st[i]? = some (.dct kvs) ∨ st[i]? = some (.frz (.dct kvs))) (hb : lookA n P = some b) (hw : asD st w = some (.lst (encV vs))) (hl : vs.length ≤ 900000) :
    s_m_init [.c st.length, pw, .d (.str n), w] (st ++ [.obj []]) = .ok (.d .non) (st ++ [.obj (objF pw (st.length + 1) (st.length + 2)), .lst (encV vs), .lst (encF (leaveR P [(n, 0)]))]) ∧
    Mat (st ++ [.obj (objF pw (st.length + 1) (st.length + 2)), .lst (encV vs), .lst (encF (leaveR P [(n, 0)]))]) st.length (st.length + 1) (st.length + 2) pw P vs (leaveR P [(n, 0)]) := by
  have hx : pw.isExc = false := noExc_of hpr
  have hxw : w.isExc = false := noExc_of hw
  have hlk : look n (encP P) = some b.enc := by rw [lookP, hb]; rfl
  have hz : (encV vs).length ≤ sizeLine := small (by rw [List.length_map]; omega)
  have mat : ∀ fs, Mat (st ++ [.obj (objF pw (st.length + 1) (st.length + 2)), .lst (encV vs), .lst (encF fs)]) st.length (st.length + 1) (st.length + 2) pw P vs fs := fun fs => by
    refine ⟨rs_get0 st _ _, rs_get1 st _ _ _, ?_, asD_app hpr _, by omega, fun k e => ?_⟩
    · rw [List.getElem?_append_right (by omega)]; simp
    · obtain ⟨kvs, q⟩ := hpc k e
      have hk : k < st.length := by rcases q with q | q <;> exact (List.getElem?_eq_some_iff.mp q).1
      exact ⟨kvs, by rw [List.getElem?_append_left hk]; exact q⟩
  refine ⟨?_, mat _⟩
  have hblk := p_block_some pw (encP P) n b.enc (st ++ [.obj []]) (asD_app hpr _) hlk
  have hlv := leave_ok (mat [(n, 0)]) (fun g hg => by rw [List.mem_singleton] at hg; subst hg; exact ⟨b, hb, Nat.zero_le _⟩) (by simp)
  have hset : (st ++ [Cell.obj (objF pw (st.length + 1) (st.length + 2)), Cell.lst (encV vs), Cell.lst (encF [(n, 0)])]).set (st.length + 2) (.lst (encF (leaveR P [(n, 0)]))) = st ++ [.obj (objF pw (st.length + 1) (st.length + 2)), .lst (encV vs), .lst (encF (leaveR P [(n, 0)]))] := by
    rw [List.set_append_right _ _ (by omega), show st.length + 2 - st.length = 2 by omega]; rfl
  rw [hset] at hlv
  let E : Env := [some (.c st.length), some pw, some (.d (.str n)), some w]
  refine rawM_nx (env := E) rfl ?_
  unfold b_m_init
  show seqM _ _ E _ = _
  refine (seq_nx (e := E) (s := st ++ [.obj []]) (by simp only [szs, fnM, rawM, seqM, ifM, tvM, truM, binM, unM, appM, consA, nilA, varM, conM, retM, retN, asgM, expM, raiseM, passS, callF, app1, app2, noExc, isExc_d, isExc_c, bindS_ok, bindS_err, bindS_stuck, Res.bind_ok, Res.bind_err, Res.bind_stuck, onBl_bl, andT, orT, notT, andV, orV, notV, tupM, lstM, toDs, toD, asD_d, asD_new, frzW_d, newT, newL, slM, slW, someO, noneO, ixW, addW, subW, mulW, modW, cmpW, negW, lenW, intW, tabW, isNonB, isNonW, isNon_d, List.map_cons, List.map_nil, List.length_cons, List.length_nil, List.replicate, List.append_nil, List.nil_append, List.cons_append, List.getElem?_cons_zero, List.getElem?_cons_succ, List.set_cons_zero, List.set_cons_succ, Nat.reduceAdd, Nat.reduceSub, if_true, if_false, ite_true, ite_false, Bool.not_true, Bool.not_false, Bool.and_true, Bool.and_false, Bool.false_eq_true, reduceIte, fin_same, finE_same, fin_new, atI_0, atI_1, atI_2, eqW_ofs, look_ofs, look_nil, dspC, newDc, inW, Option.isSome_some, Option.isSome_none, itM, forM, items_dl, items_dt, methL, methD, arg0, arg1, arg2, appendW, popW, listW, get_new, set_new, isLst_new, pow109, String.reduceBEq, String.reduceEq, Bool.false_or, Bool.true_or, Bool.or_false, Bool.or_true, E, hx, hblk])).trans ?_
  have g0 : ∀ (c : Cell) (G : Store), (st ++ (c :: G))[st.length]? = some c := fun c G => rs_get0 st c G
  have p0 : ∀ (c c' : Cell) (G : Store), (st ++ (c :: G)).set st.length c' = st ++ (c' :: G) := fun c c' G => rs_set0 st c c' G
  refine (seq_nx (e := E) (s := st ++ [.obj [("program", pw)]]) (by
    show setFM _ _ _ E _ = _
    simp only [setFM, E, varM, List.getElem?_cons_zero, List.getElem?_cons_succ, bindS_ok, g0, p0, putF, List.length_nil, hx, and_self, if_true, show (0 : Nat) < 1000 from by decide])).trans ?_
  refine (seq_nx (e := E) (s := st ++ [.obj [("program", pw), ("stack", .c (st.length + 1))], .lst (encV vs)]) (by
    have hw1 := asD_app hw [Cell.obj [("program", pw)]]
    have hlen : (st ++ [Cell.obj [("program", pw)]]).length = st.length + 1 := by rw [List.length_append]; rfl
    have happ : st ++ [Cell.obj [("program", pw)]] ++ [Cell.lst (encV vs)] = st ++ [Cell.obj [("program", pw)], Cell.lst (encV vs)] := by simp
    show setFM _ _ _ E _ = _
    simp only [setFM, E, appM, app1, consA, nilA, varM, List.getElem?_cons_zero, List.getElem?_cons_succ, Res.bind_ok, listW, hw1, newL, if_pos hz, if_true, hlen, happ, bindS_ok, g0, p0, putF, List.length_cons, List.length_nil, isExc_c, and_self, ofString_inj, String.reduceEq, if_false, show (0 + 1 : Nat) < 1000 from by decide])).trans ?_
  refine (seq_nx (e := E) (s := st ++ [.obj (objF pw (st.length + 1) (st.length + 2)), .lst (encV vs), .lst (encF [(n, 0)])]) (by
    have hlen : (st ++ [Cell.obj [("program", pw), ("stack", .c (st.length + 1))], Cell.lst (encV vs)]).length = st.length + 2 := by rw [List.length_append]; rfl
    have happ : st ++ [Cell.obj [("program", pw), ("stack", .c (st.length + 1))], Cell.lst (encV vs)] ++ [Cell.lst [D.tup [.str n, .int 0]]] = st ++ [Cell.obj [("program", pw), ("stack", .c (st.length + 1))], Cell.lst (encV vs), Cell.lst [D.tup [.str n, .int 0]]] := by simp
    have hv : lstM true (consA (tupM (consA (varM 2) (consA (conM (.int 0)) nilA))) nilA) E (st ++ [.obj [("program", pw), ("stack", .c (st.length + 1))], .lst (encV vs)]) = .ok (.c (st.length + 2)) (st ++ [Cell.obj [("program", pw), ("stack", .c (st.length + 1))], Cell.lst (encV vs), Cell.lst [D.tup [.str n, .int 0]]]) := by
      simp only [szs, fnM, rawM, seqM, ifM, tvM, truM, binM, unM, appM, consA, nilA, varM, conM, retM, retN, asgM, expM, raiseM, passS, callF, app1, app2, noExc, isExc_d, isExc_c, bindS_ok, bindS_err, bindS_stuck, Res.bind_ok, Res.bind_err, Res.bind_stuck, onBl_bl, andT, orT, notT, andV, orV, notV, tupM, lstM, toDs, toD, asD_d, asD_new, frzW_d, newT, newL, slM, slW, someO, noneO, ixW, addW, subW, mulW, modW, cmpW, negW, lenW, intW, tabW, isNonB, isNonW, isNon_d, List.map_cons, List.map_nil, List.length_cons, List.length_nil, List.replicate, List.append_nil, List.nil_append, List.cons_append, List.getElem?_cons_zero, List.getElem?_cons_succ, List.set_cons_zero, List.set_cons_succ, Nat.reduceAdd, Nat.reduceSub, if_true, if_false, ite_true, ite_false, Bool.not_true, Bool.not_false, Bool.and_true, Bool.and_false, Bool.false_eq_true, reduceIte, fin_same, finE_same, fin_new, atI_0, atI_1, atI_2, eqW_ofs, look_ofs, look_nil, dspC, newDc, inW, Option.isSome_some, Option.isSome_none, itM, forM, items_dl, items_dt, methL, methD, arg0, arg1, arg2, appendW, popW, listW, get_new, set_new, isLst_new, pow109, String.reduceBEq, String.reduceEq, Bool.false_or, Bool.true_or, Bool.or_false, Bool.or_true, E, hlen, happ]
    show setFM _ _ _ E _ = _
    simp only [setFM, hv, bindS_ok]
    simp only [E, varM, List.getElem?_cons_zero, bindS_ok, g0, p0, putF, List.length_cons, List.length_nil, isExc_c, and_self, ofString_inj, String.reduceEq, if_false, if_true, show (0 + 1 + 1 : Nat) < 1000 from by decide]
    rfl)).trans ?_
  have hm := meth_ok (st := st ++ [.obj (objF pw (st.length + 1) (st.length + 2)), .lst (encV vs), .lst (encF [(n, 0)])]) (m := "leave") (F := s_m_leave) (o := varM 0) (env := E) (j := st.length) rfl (g0 _ _) (nm_leave _ _ _)
  unfold expM
  rw [hm, hlv]
  rfl
end Py

namespace Py
open PySem L2
section
variable {st : Store} {j s f : Nat} {pw : W} {P : Prg} {vs : List Val} {n : Str} {p : Nat} {r : Frs}
noncomputable abbrev stA : MS := (ifM (tvM (binM (eqW false) (binM ixW (varM 3) (conM (.int 0))) (conM (.str "call"))))
  (asgM 5 (lstM false (consA (binM ixW (varM 3) (conM (.int 1))) nilA)))
  (ifM (tvM (binM (eqW false) (binM ixW (varM 3) (conM (.int 0))) (conM (.str "if"))))
  (seqM (expM (callF s_p_need (consA (callF s_p_kinds_of (consA (slM false (varM 4) (someO (unM negW (conM (.int 1)))) noneO) nilA)) (consA (tupM (consA (conM (.str "num")) nilA)) nilA))))
  (seqM (asgM 5 (lstM false (consA (binM ixW (varM 3) (binM (addW false) (conM (.int 1)) (appM (app1 intW) (consA (binM (eqW false) (binM ixW (varM 4) (unM negW (conM (.int 1)))) (conM (.int 0))) nilA)))) nilA)))
  (asgM 4 (slM true (varM 4) noneO (someO (unM negW (conM (.int 1))))))))
  (asgM 4 (callF s_p_done (consA (varM 4) (consA (varM 3) nilA))))))
noncomputable abbrev stB : MS := (seqM (forM (itM (varM 5)) (.name 6)
  (expM (callF s_p_block_of (consA (unM (fldW "program") (varM 0)) (consA (varM 6) nilA)))))
  (seqM (setFM "stack" (varM 0) (varM 4))
  (seqM (setLM (unM (fldW "frames") (varM 0)) (unM negW (conM (.int 1))) (tupM (consA (varM 1) (consA (binM (addW false) (varM 2) (conM (.int 1))) nilA))))
  (seqM (forM (itM (varM 5)) (.name 6)
  (expM (methL (arg1 appendW) (unM (fldW "frames") (varM 0)) (consA (tupM (consA (varM 6) (consA (conM (.int 0)) nilA))) nilA))))
  (expM (methM "leave" s_m_leave (varM 0)))))))
abbrev SE' (j : Nat) (n : Str) (p : Nat) (row : Rw) (l : Nat) (en : List Str) (x6 : Option W) : Env := [some (.c j), some (.d (.str n)), some (.d (.int p)), some (.d row.enc), some (.c l), some (.d (.lst (encS en))), x6]
/-- the second half of a step: the stack is at l, the names that are entered are en -/
theorem stepB_ok (h : Mat st j s f pw P vs ((n, p) :: r)) (hfr : FrOk P ((n, p + 1) :: r)) (hr : r.length ≤ 500000) {l : Nat} {vs' : List Val} (hl : st[l]? = some (.lst (encV vs'))) (hlf : l ≠ f) (row : Rw) (en : List Str) (hen : en = [] ∨ ∃ m b, en = [m] ∧ lookA m P = some b) :
    ∃ (env' : Env) (st' : Store), stB (SE' j n p row l en none) st = .nx env' st' ∧ Mat st' j l f pw P vs' (leaveR P ((en.map fun m => (m, 0)) ++ (n, p + 1) :: r)) ∧ Pres j f st st' := by
  have hx := h.px
  have hfP := h.fP
  -- the blocks are there
  have e1 : ∃ x6, forM (itM (varM 5)) (.name 6) (expM (callF s_p_block_of (consA (unM (fldW "program") (varM 0)) (consA (varM 6) nilA)))) (SE' j n p row l en none) st = .nx (SE' j n p row l en x6) st := by
    rcases hen with rfl | ⟨m, b, rfl, hb⟩
    · exact ⟨none, by simp only [szs, fnM, rawM, seqM, ifM, tvM, truM, binM, unM, appM, consA, nilA, varM, conM, retM, retN, asgM, expM, raiseM, passS, callF, app1, app2, noExc, isExc_d, isExc_c, bindS_ok, bindS_err, bindS_stuck, Res.bind_ok, Res.bind_err, Res.bind_stuck, onBl_bl, andT, orT, notT, andV, orV, notV, tupM, lstM, toDs, toD, asD_d, asD_new, frzW_d, newT, newL, slM, slW, someO, noneO, ixW, addW, subW, mulW, modW, cmpW, negW, lenW, intW, tabW, isNonB, isNonW, isNon_d, List.map_cons, List.map_nil, List.length_cons, List.length_nil, List.replicate, List.append_nil, List.nil_append, List.cons_append, List.getElem?_cons_zero, List.getElem?_cons_succ, List.set_cons_zero, List.set_cons_succ, Nat.reduceAdd, Nat.reduceSub, if_true, if_false, ite_true, ite_false, Bool.not_true, Bool.not_false, Bool.and_true, Bool.and_false, Bool.false_eq_true, reduceIte, fin_same, finE_same, fin_new, atI_0, atI_1, atI_2, eqW_ofs, look_ofs, look_nil, dspC, newDc, inW, Option.isSome_some, Option.isSome_none, itM, forM, items_dl, items_dt, methL, methD, arg0, arg1, arg2, appendW, popW, listW, get_new, set_new, isLst_new, pow109, String.reduceBEq, String.reduceEq, Bool.false_or, Bool.true_or, Bool.or_false, Bool.or_true, loopS]⟩
    · have hblk := p_block_some pw (encP P) m b.enc st h.pr (by rw [lookP, hb]; rfl)
      refine ⟨some (.d (.str m)), ?_⟩
      simp only [szs, fnM, rawM, seqM, ifM, tvM, truM, binM, unM, appM, consA, nilA, varM, conM, retM, retN, asgM, expM, raiseM, passS, callF, app1, app2, noExc, isExc_d, isExc_c, bindS_ok, bindS_err, bindS_stuck, Res.bind_ok, Res.bind_err, Res.bind_stuck, onBl_bl, andT, orT, notT, andV, orV, notV, tupM, lstM, toDs, toD, asD_d, asD_new, frzW_d, newT, newL, slM, slW, someO, noneO, ixW, addW, subW, mulW, modW, cmpW, negW, lenW, intW, tabW, isNonB, isNonW, isNon_d, List.map_cons, List.map_nil, List.length_cons, List.length_nil, List.replicate, List.append_nil, List.nil_append, List.cons_append, List.getElem?_cons_zero, List.getElem?_cons_succ, List.set_cons_zero, List.set_cons_succ, Nat.reduceAdd, Nat.reduceSub, if_true, if_false, ite_true, ite_false, Bool.not_true, Bool.not_false, Bool.and_true, Bool.and_false, Bool.false_eq_true, reduceIte, fin_same, finE_same, fin_new, atI_0, atI_1, atI_2, eqW_ofs, look_ofs, look_nil, dspC, newDc, inW, Option.isSome_some, Option.isSome_none, itM, forM, items_dl, items_dt, methL, methD, arg0, arg1, arg2, appendW, popW, listW, get_new, set_new, isLst_new, pow109, String.reduceBEq, String.reduceEq, Bool.false_or, Bool.true_or, Bool.or_false, Bool.or_true, loopS, setT, hfP, hx, hblk] <;> rfl
  obtain ⟨x6, e1⟩ := e1
  -- the stack
  have hobj := h.obj
  have e2 : setFM "stack" (varM 0) (varM 4) (SE' j n p row l en x6) st = .nx (SE' j n p row l en x6) (st.set j (.obj (objF pw l f))) := by
    simp only [setFM, varM, List.getElem?_cons_zero, List.getElem?_cons_succ, bindS_ok, hobj, List.length_cons, List.length_nil, isExc_c, and_self, if_true, putF, ofString_inj, String.reduceEq, if_false, show (0 + 1 + 1 + 1 : Nat) < 1000 from by decide]
  have m2 := h.setS hl hlf
  have hF2 := m2.fF
  have hfrm2 := m2.frm
  have hlen : ixN (encF ((n, p) :: r)).length (-1) = some (encF r).length := by
    rw [encF_cons]
    unfold ixN
    rw [List.length_append, List.length_singleton, if_neg (by omega), if_pos (by omega)]
    congr 1; omega
  have hset : (encF ((n, p) :: r)).set (encF r).length (.tup [.str n, .int ((p : Int) + 1)]) = encF ((n, p + 1) :: r) := by
    rw [encF_cons, encF_cons, List.set_append_right _ _ (Nat.le_refl _)]; simp
  have e3 : setLM (unM (fldW "frames") (varM 0)) (unM negW (conM (.int 1))) (tupM (consA (varM 1) (consA (binM (addW false) (varM 2) (conM (.int 1))) nilA))) (SE' j n p row l en x6) (st.set j (.obj (objF pw l f))) = .nx (SE' j n p row l en x6) ((st.set j (.obj (objF pw l f))).set f (.lst (encF ((n, p + 1) :: r)))) := by
    simp only [szs, fnM, rawM, seqM, ifM, tvM, truM, binM, unM, appM, consA, nilA, varM, conM, retM, retN, asgM, expM, raiseM, passS, callF, app1, app2, noExc, isExc_d, isExc_c, bindS_ok, bindS_err, bindS_stuck, Res.bind_ok, Res.bind_err, Res.bind_stuck, onBl_bl, andT, orT, notT, andV, orV, notV, tupM, lstM, toDs, toD, asD_d, asD_new, frzW_d, newT, newL, slM, slW, someO, noneO, ixW, addW, subW, mulW, modW, cmpW, negW, lenW, intW, tabW, isNonB, isNonW, isNon_d, List.map_cons, List.map_nil, List.length_cons, List.length_nil, List.replicate, List.append_nil, List.nil_append, List.cons_append, List.getElem?_cons_zero, List.getElem?_cons_succ, List.set_cons_zero, List.set_cons_succ, Nat.reduceAdd, Nat.reduceSub, if_true, if_false, ite_true, ite_false, Bool.not_true, Bool.not_false, Bool.and_true, Bool.and_false, Bool.false_eq_true, reduceIte, fin_same, finE_same, fin_new, atI_0, atI_1, atI_2, eqW_ofs, look_ofs, look_nil, dspC, newDc, inW, Option.isSome_some, Option.isSome_none, itM, forM, items_dl, items_dt, methL, methD, arg0, arg1, arg2, appendW, popW, listW, get_new, set_new, isLst_new, pow109, String.reduceBEq, String.reduceEq, Bool.false_or, Bool.true_or, Bool.or_false, Bool.or_true, setLM, hF2, hfrm2, Int.reduceNeg, hlen, hset]
  have m3 := m2.setF ((n, p + 1) :: r)
  -- the entered
  have e4 : ∃ y6, forM (itM (varM 5)) (.name 6) (expM (methL (arg1 appendW) (unM (fldW "frames") (varM 0)) (consA (tupM (consA (varM 6) (consA (conM (.int 0)) nilA))) nilA))) (SE' j n p row l en x6) ((st.set j (.obj (objF pw l f))).set f (.lst (encF ((n, p + 1) :: r))))
      = .nx (SE' j n p row l en y6) (((st.set j (.obj (objF pw l f))).set f (.lst (encF ((en.map fun m => (m, 0)) ++ (n, p + 1) :: r))))) := by
    rcases hen with rfl | ⟨m, b, rfl, hb⟩
    · exact ⟨x6, by simp only [szs, fnM, rawM, seqM, ifM, tvM, truM, binM, unM, appM, consA, nilA, varM, conM, retM, retN, asgM, expM, raiseM, passS, callF, app1, app2, noExc, isExc_d, isExc_c, bindS_ok, bindS_err, bindS_stuck, Res.bind_ok, Res.bind_err, Res.bind_stuck, onBl_bl, andT, orT, notT, andV, orV, notV, tupM, lstM, toDs, toD, asD_d, asD_new, frzW_d, newT, newL, slM, slW, someO, noneO, ixW, addW, subW, mulW, modW, cmpW, negW, lenW, intW, tabW, isNonB, isNonW, isNon_d, List.map_cons, List.map_nil, List.length_cons, List.length_nil, List.replicate, List.append_nil, List.nil_append, List.cons_append, List.getElem?_cons_zero, List.getElem?_cons_succ, List.set_cons_zero, List.set_cons_succ, Nat.reduceAdd, Nat.reduceSub, if_true, if_false, ite_true, ite_false, Bool.not_true, Bool.not_false, Bool.and_true, Bool.and_false, Bool.false_eq_true, reduceIte, fin_same, finE_same, fin_new, atI_0, atI_1, atI_2, eqW_ofs, look_ofs, look_nil, dspC, newDc, inW, Option.isSome_some, Option.isSome_none, itM, forM, items_dl, items_dt, methL, methD, arg0, arg1, arg2, appendW, popW, listW, get_new, set_new, isLst_new, pow109, String.reduceBEq, String.reduceEq, Bool.false_or, Bool.true_or, Bool.or_false, Bool.or_true, loopS]⟩
    · have hF3 := m3.fF
      have hL3 := m3.lF
      have hfrm3 := m3.frm
      have hz : (encF ((n, p + 1) :: r)).length < sizeLine := lt_line (by rw [List.length_map, List.length_reverse, List.length_cons]; omega)
      have happ : encF ((n, p + 1) :: r) ++ [D.tup [.str m, .int 0]] = encF ((m, 0) :: (n, p + 1) :: r) := by rw [encF_cons m]; rfl
      refine ⟨some (.d (.str m)), ?_⟩
      simp only [szs, fnM, rawM, seqM, ifM, tvM, truM, binM, unM, appM, consA, nilA, varM, conM, retM, retN, asgM, expM, raiseM, passS, callF, app1, app2, noExc, isExc_d, isExc_c, bindS_ok, bindS_err, bindS_stuck, Res.bind_ok, Res.bind_err, Res.bind_stuck, onBl_bl, andT, orT, notT, andV, orV, notV, tupM, lstM, toDs, toD, asD_d, asD_new, frzW_d, newT, newL, slM, slW, someO, noneO, ixW, addW, subW, mulW, modW, cmpW, negW, lenW, intW, tabW, isNonB, isNonW, isNon_d, List.map_cons, List.map_nil, List.length_cons, List.length_nil, List.replicate, List.append_nil, List.nil_append, List.cons_append, List.getElem?_cons_zero, List.getElem?_cons_succ, List.set_cons_zero, List.set_cons_succ, Nat.reduceAdd, Nat.reduceSub, if_true, if_false, ite_true, ite_false, Bool.not_true, Bool.not_false, Bool.and_true, Bool.and_false, Bool.false_eq_true, reduceIte, fin_same, finE_same, fin_new, atI_0, atI_1, atI_2, eqW_ofs, look_ofs, look_nil, dspC, newDc, inW, Option.isSome_some, Option.isSome_none, itM, forM, items_dl, items_dt, methL, methD, arg0, arg1, arg2, appendW, popW, listW, get_new, set_new, isLst_new, pow109, String.reduceBEq, String.reduceEq, Bool.false_or, Bool.true_or, Bool.or_false, Bool.or_true, loopS, setT, hF3, hL3, hfrm3, hz, happ, set_set'] <;> rfl
  obtain ⟨y6, e4⟩ := e4
  have m4 := m2.setF ((en.map fun m => (m, 0)) ++ (n, p + 1) :: r)
  have hfr4 : FrOk P ((en.map fun m => (m, 0)) ++ (n, p + 1) :: r) := by
    rcases hen with rfl | ⟨m, b, rfl, hb⟩
    · exact hfr
    · intro g hg
      rcases List.mem_cons.mp hg with e | hg
      · subst e; exact ⟨b, hb, Nat.zero_le _⟩
      · exact hfr g hg
  have hlen4 : ((en.map fun m => (m, 0)) ++ (n, p + 1) :: r).length ≤ 900000 := by
    rcases hen with rfl | ⟨m, b, rfl, hb⟩ <;> simp <;> omega
  have hlv := leave_ok m4 hfr4 hlen4
  have hm := meth_ok (st1 := (st.set j (.obj (objF pw l f))).set f (.lst (encF ((en.map fun m => (m, 0)) ++ (n, p + 1) :: r)))) (m := "leave") (F := s_m_leave) (o := varM 0) (env := SE' j n p row l en y6) (j := j) (st := (st.set j (.obj (objF pw l f))).set f (.lst (encF ((en.map fun m => (m, 0)) ++ (n, p + 1) :: r)))) rfl m4.obj (nm_leave _ _ _)
  refine ⟨SE' j n p row l en y6, _, ?_, m4.setF _, (Pres.setJ.trans Pres.setF).trans Pres.setF⟩
  refine (seq_nx e1).trans ((seq_nx e2).trans ((seq_nx e3).trans ((seq_nx e4).trans ?_)))
  unfold expM
  rw [hm, hlv]
  rfl
theorem stepS_ok (h : Mat st j s f pw P vs ((n, p) :: r)) (hfr : FrOk P ((n, p) :: r)) (hr : r.length ≤ 400000) {b : Blk} (hb : lookA n P = some b) (hp : p < b.rows.length) (hro : ∀ x ∈ b.rows, x.ok) (hv : ∀ v ∈ vs, v.ok) (hl : vs.length ≤ 200000) {vs' : List Val} {fs' : Frs} (hs : stepT P vs n p r b.rows[p] = .ok (vs', fs')) :
    ∃ (st' : Store) (s' : Nat), s_m_step [.c j] st = .ok (.d .non) st' ∧ Mat st' j s' f pw P vs' fs' ∧ Pres j f st st' ∧ (s' = s ∨ st.length ≤ s') := by
  have hrow := hro _ (List.getElem_mem hp)
  have hfr1 : FrOk P ((n, p + 1) :: r) := fun g hg => by
    rcases List.mem_cons.mp hg with e | hg
    · subst e; exact ⟨b, hb, hp⟩
    · exact hfr g (List.mem_cons_of_mem _ hg)
  have hx := h.px
  have hfF := h.fF
  have haF := h.aF
  have hfS := h.fS
  have hfP := h.fP
  have hpr := h.pr
  have hlast := lastF n p r
  have hlk : look n (encP P) = some (.tup [.tup (encK b.ins), .tup (encK b.outs), .lst (encR b.rows)]) := by rw [lookP, hb]; rfl
  have hat : atI (encR b.rows) (p : Int) = some (b.rows[p]).enc := by rw [atI_nat, List.getElem?_map, List.getElem?_eq_getElem hp]; rfl
  have hov := over_ok h
  have hmo := meth_ok (st := st) (m := "over") (F := s_m_over) (o := varM 0) (env := [some (.c j), none, none, none, none, none, none]) (j := j) rfl h.obj (nm_over _ _ _)
  have hov' : methM "over" s_m_over (varM 0) [some (.c j), none, none, none, none, none, none] st = .ok (.d (.bl false)) st := by rw [hmo, hov]; rfl
  -- up to the row
  have pre : ∀ rest : MS, seqM (ifM (tvM (methM "over" s_m_over (varM 0))) retN passS)
      (seqM (asgTM [1, 2] (binM ixW (unM (fldW "frames") (varM 0)) (unM negW (conM (.int 1)))))
      (seqM (asgM 3 (binM ixW (binM ixW (binM ixW (unM (fldW "program") (varM 0)) (varM 1)) (conM (.int 2))) (varM 2)))
      (seqM (asgM 4 (unM (fldW "stack") (varM 0)))
      (seqM (asgM 5 (lstM false nilA)) rest)))) [some (.c j), none, none, none, none, none, none] st = rest (SE' j n p b.rows[p] s [] none) st := fun rest => by
    refine (seq_nx (e := [some (.c j), none, none, none, none, none, none]) (s := st) ((if_f (s := st) (by unfold tvM; rw [hov']; rfl)).trans rfl)).trans ?_
    refine (seq_nx (e := [some (.c j), some (.d (.str n)), some (.d (.int p)), none, none, none, none]) (s := st) (by simp only [szs, fnM, rawM, seqM, ifM, tvM, truM, binM, unM, appM, consA, nilA, varM, conM, retM, retN, asgM, expM, raiseM, passS, callF, app1, app2, noExc, isExc_d, isExc_c, bindS_ok, bindS_err, bindS_stuck, Res.bind_ok, Res.bind_err, Res.bind_stuck, onBl_bl, andT, orT, notT, andV, orV, notV, tupM, lstM, toDs, toD, asD_d, asD_new, frzW_d, newT, newL, slM, slW, someO, noneO, ixW, addW, subW, mulW, modW, cmpW, negW, lenW, intW, tabW, isNonB, isNonW, isNon_d, List.map_cons, List.map_nil, List.length_cons, List.length_nil, List.replicate, List.append_nil, List.nil_append, List.cons_append, List.getElem?_cons_zero, List.getElem?_cons_succ, List.set_cons_zero, List.set_cons_succ, Nat.reduceAdd, Nat.reduceSub, if_true, if_false, ite_true, ite_false, Bool.not_true, Bool.not_false, Bool.and_true, Bool.and_false, Bool.false_eq_true, reduceIte, fin_same, finE_same, fin_new, atI_0, atI_1, atI_2, eqW_ofs, look_ofs, look_nil, dspC, newDc, inW, Option.isSome_some, Option.isSome_none, itM, forM, items_dl, items_dt, methL, methD, arg0, arg1, arg2, appendW, popW, listW, get_new, set_new, isLst_new, pow109, String.reduceBEq, String.reduceEq, Bool.false_or, Bool.true_or, Bool.or_false, Bool.or_true, asgTM, hfF, haF, Int.reduceNeg, hlast, sets])).trans ?_
    refine (seq_nx (e := [some (.c j), some (.d (.str n)), some (.d (.int p)), some (.d (b.rows[p]).enc), none, none, none]) (s := st) (by simp only [szs, fnM, rawM, seqM, ifM, tvM, truM, binM, unM, appM, consA, nilA, varM, conM, retM, retN, asgM, expM, raiseM, passS, callF, app1, app2, noExc, isExc_d, isExc_c, bindS_ok, bindS_err, bindS_stuck, Res.bind_ok, Res.bind_err, Res.bind_stuck, onBl_bl, andT, orT, notT, andV, orV, notV, tupM, lstM, toDs, toD, asD_d, asD_new, frzW_d, newT, newL, slM, slW, someO, noneO, ixW, addW, subW, mulW, modW, cmpW, negW, lenW, intW, tabW, isNonB, isNonW, isNon_d, List.map_cons, List.map_nil, List.length_cons, List.length_nil, List.replicate, List.append_nil, List.nil_append, List.cons_append, List.getElem?_cons_zero, List.getElem?_cons_succ, List.set_cons_zero, List.set_cons_succ, Nat.reduceAdd, Nat.reduceSub, if_true, if_false, ite_true, ite_false, Bool.not_true, Bool.not_false, Bool.and_true, Bool.and_false, Bool.false_eq_true, reduceIte, fin_same, finE_same, fin_new, atI_0, atI_1, atI_2, eqW_ofs, look_ofs, look_nil, dspC, newDc, inW, Option.isSome_some, Option.isSome_none, itM, forM, items_dl, items_dt, methL, methD, arg0, arg1, arg2, appendW, popW, listW, get_new, set_new, isLst_new, pow109, String.reduceBEq, String.reduceEq, Bool.false_or, Bool.true_or, Bool.or_false, Bool.or_true, hfP, hpr, hlk, hat])).trans ?_
    refine (seq_nx (e := [some (.c j), some (.d (.str n)), some (.d (.int p)), some (.d (b.rows[p]).enc), some (.c s), none, none]) (s := st) (by simp only [szs, fnM, rawM, seqM, ifM, tvM, truM, binM, unM, appM, consA, nilA, varM, conM, retM, retN, asgM, expM, raiseM, passS, callF, app1, app2, noExc, isExc_d, isExc_c, bindS_ok, bindS_err, bindS_stuck, Res.bind_ok, Res.bind_err, Res.bind_stuck, onBl_bl, andT, orT, notT, andV, orV, notV, tupM, lstM, toDs, toD, asD_d, asD_new, frzW_d, newT, newL, slM, slW, someO, noneO, ixW, addW, subW, mulW, modW, cmpW, negW, lenW, intW, tabW, isNonB, isNonW, isNon_d, List.map_cons, List.map_nil, List.length_cons, List.length_nil, List.replicate, List.append_nil, List.nil_append, List.cons_append, List.getElem?_cons_zero, List.getElem?_cons_succ, List.set_cons_zero, List.set_cons_succ, Nat.reduceAdd, Nat.reduceSub, if_true, if_false, ite_true, ite_false, Bool.not_true, Bool.not_false, Bool.and_true, Bool.and_false, Bool.false_eq_true, reduceIte, fin_same, finE_same, fin_new, atI_0, atI_1, atI_2, eqW_ofs, look_ofs, look_nil, dspC, newDc, inW, Option.isSome_some, Option.isSome_none, itM, forM, items_dl, items_dt, methL, methD, arg0, arg1, arg2, appendW, popW, listW, get_new, set_new, isLst_new, pow109, String.reduceBEq, String.reduceEq, Bool.false_or, Bool.true_or, Bool.or_false, Bool.or_true, hfS])).trans ?_
    exact seq_nx (by simp only [szs, fnM, rawM, seqM, ifM, tvM, truM, binM, unM, appM, consA, nilA, varM, conM, retM, retN, asgM, expM, raiseM, passS, callF, app1, app2, noExc, isExc_d, isExc_c, bindS_ok, bindS_err, bindS_stuck, Res.bind_ok, Res.bind_err, Res.bind_stuck, onBl_bl, andT, orT, notT, andV, orV, notV, tupM, lstM, toDs, toD, asD_d, asD_new, frzW_d, newT, newL, slM, slW, someO, noneO, ixW, addW, subW, mulW, modW, cmpW, negW, lenW, intW, tabW, isNonB, isNonW, isNon_d, List.map_cons, List.map_nil, List.length_cons, List.length_nil, List.replicate, List.append_nil, List.nil_append, List.cons_append, List.getElem?_cons_zero, List.getElem?_cons_succ, List.set_cons_zero, List.set_cons_succ, Nat.reduceAdd, Nat.reduceSub, if_true, if_false, ite_true, ite_false, Bool.not_true, Bool.not_false, Bool.and_true, Bool.and_false, Bool.false_eq_true, reduceIte, fin_same, finE_same, fin_new, atI_0, atI_1, atI_2, eqW_ofs, look_ofs, look_nil, dspC, newDc, inW, Option.isSome_some, Option.isSome_none, itM, forM, items_dl, items_dt, methL, methD, arg0, arg1, arg2, appendW, popW, listW, get_new, set_new, isLst_new, pow109, String.reduceBEq, String.reduceEq, Bool.false_or, Bool.true_or, Bool.or_false, Bool.or_true] <;> rfl)
  have haS := h.aS
  generalize hrw : b.rows[p] = row at hs hrow pre
  -- what the first half does
  have fin : ∀ (l : Nat) (st1 : Store) (en : List Str), (en = [] ∨ ∃ m b, en = [m] ∧ lookA m P = some b) → stA (SE' j n p row s [] none) st = .nx (SE' j n p row l en none) st1 → (∃ g, st1 = st ++ g) → st1[l]? = some (.lst (encV vs')) → l ≠ f → fs' = leaveR P ((en.map fun m => (m, 0)) ++ (n, p + 1) :: r) → (l = s ∨ st.length ≤ l) →
      ∃ (st' : Store) (s' : Nat), s_m_step [.c j] st = .ok (.d .non) st' ∧ Mat st' j s' f pw P vs' fs' ∧ Pres j f st st' ∧ (s' = s ∨ st.length ≤ s') := fun l st1 en hen eA ⟨g, hg⟩ hl1 hlf hfs hls => by
    subst hg
    obtain ⟨env', st', eB, hm, hp'⟩ := stepB_ok (h.app g) hfr1 (by omega) hl1 hlf row en hen
    refine ⟨st', l, rawM_nx (env := env') rfl ?_, by rw [hfs]; exact hm, Pres.app.trans hp', hls⟩
    show b_m_step [some (.c j), none, none, none, none, none, none] st = _
    unfold b_m_step
    refine (pre _).trans ?_
    exact (seq_nx eA).trans eB
  cases row with
  | plain r0 =>
    simp only [stepT] at hs
    cases q : need (vs.map Val.kd) r0.wants with
    | some e => rw [q] at hs; cases hs
    | none =>
      rw [q] at hs
      simp only [Except.ok.injEq, Prod.mk.injEq] at hs
      obtain ⟨rfl, rfl⟩ := hs
      have hd := done_ok (.c s) vs r0 st haS hv hrow (by omega)
      rw [q] at hd
      simp only at hd
      have hstl := h.lt.2.2
      refine fin st.length (st ++ [.lst (encV (doneV r0 vs))]) [] (.inl rfl) ?_ ⟨_, rfl⟩ (by simp) (by omega) rfl (.inr (Nat.le_refl _))
      cases r0 with
      | num v => simp only [Row.enc] at hd; (simp only [szs, fnM, rawM, seqM, ifM, tvM, truM, binM, unM, appM, consA, nilA, varM, conM, retM, retN, asgM, expM, raiseM, passS, callF, app1, app2, noExc, isExc_d, isExc_c, bindS_ok, bindS_err, bindS_stuck, Res.bind_ok, Res.bind_err, Res.bind_stuck, onBl_bl, andT, orT, notT, andV, orV, notV, tupM, lstM, toDs, toD, asD_d, asD_new, frzW_d, newT, newL, slM, slW, someO, noneO, ixW, addW, subW, mulW, modW, cmpW, negW, lenW, intW, tabW, isNonB, isNonW, isNon_d, List.map_cons, List.map_nil, List.length_cons, List.length_nil, List.replicate, List.append_nil, List.nil_append, List.cons_append, List.getElem?_cons_zero, List.getElem?_cons_succ, List.set_cons_zero, List.set_cons_succ, Nat.reduceAdd, Nat.reduceSub, if_true, if_false, ite_true, ite_false, Bool.not_true, Bool.not_false, Bool.and_true, Bool.and_false, Bool.false_eq_true, reduceIte, fin_same, finE_same, fin_new, atI_0, atI_1, atI_2, eqW_ofs, look_ofs, look_nil, dspC, newDc, inW, Option.isSome_some, Option.isSome_none, itM, forM, items_dl, items_dt, methL, methD, arg0, arg1, arg2, appendW, popW, listW, get_new, set_new, isLst_new, pow109, String.reduceBEq, String.reduceEq, Bool.false_or, Bool.true_or, Bool.or_false, Bool.or_true, Rw.enc, Row.enc, hd] <;> rfl)
      | text v => simp only [Row.enc] at hd; (simp only [szs, fnM, rawM, seqM, ifM, tvM, truM, binM, unM, appM, consA, nilA, varM, conM, retM, retN, asgM, expM, raiseM, passS, callF, app1, app2, noExc, isExc_d, isExc_c, bindS_ok, bindS_err, bindS_stuck, Res.bind_ok, Res.bind_err, Res.bind_stuck, onBl_bl, andT, orT, notT, andV, orV, notV, tupM, lstM, toDs, toD, asD_d, asD_new, frzW_d, newT, newL, slM, slW, someO, noneO, ixW, addW, subW, mulW, modW, cmpW, negW, lenW, intW, tabW, isNonB, isNonW, isNon_d, List.map_cons, List.map_nil, List.length_cons, List.length_nil, List.replicate, List.append_nil, List.nil_append, List.cons_append, List.getElem?_cons_zero, List.getElem?_cons_succ, List.set_cons_zero, List.set_cons_succ, Nat.reduceAdd, Nat.reduceSub, if_true, if_false, ite_true, ite_false, Bool.not_true, Bool.not_false, Bool.and_true, Bool.and_false, Bool.false_eq_true, reduceIte, fin_same, finE_same, fin_new, atI_0, atI_1, atI_2, eqW_ofs, look_ofs, look_nil, dspC, newDc, inW, Option.isSome_some, Option.isSome_none, itM, forM, items_dl, items_dt, methL, methD, arg0, arg1, arg2, appendW, popW, listW, get_new, set_new, isLst_new, pow109, String.reduceBEq, String.reduceEq, Bool.false_or, Bool.true_or, Bool.or_false, Bool.or_true, Rw.enc, Row.enc, hd] <;> rfl)
      | copy v => simp only [Row.enc] at hd; (simp only [szs, fnM, rawM, seqM, ifM, tvM, truM, binM, unM, appM, consA, nilA, varM, conM, retM, retN, asgM, expM, raiseM, passS, callF, app1, app2, noExc, isExc_d, isExc_c, bindS_ok, bindS_err, bindS_stuck, Res.bind_ok, Res.bind_err, Res.bind_stuck, onBl_bl, andT, orT, notT, andV, orV, notV, tupM, lstM, toDs, toD, asD_d, asD_new, frzW_d, newT, newL, slM, slW, someO, noneO, ixW, addW, subW, mulW, modW, cmpW, negW, lenW, intW, tabW, isNonB, isNonW, isNon_d, List.map_cons, List.map_nil, List.length_cons, List.length_nil, List.replicate, List.append_nil, List.nil_append, List.cons_append, List.getElem?_cons_zero, List.getElem?_cons_succ, List.set_cons_zero, List.set_cons_succ, Nat.reduceAdd, Nat.reduceSub, if_true, if_false, ite_true, ite_false, Bool.not_true, Bool.not_false, Bool.and_true, Bool.and_false, Bool.false_eq_true, reduceIte, fin_same, finE_same, fin_new, atI_0, atI_1, atI_2, eqW_ofs, look_ofs, look_nil, dspC, newDc, inW, Option.isSome_some, Option.isSome_none, itM, forM, items_dl, items_dt, methL, methD, arg0, arg1, arg2, appendW, popW, listW, get_new, set_new, isLst_new, pow109, String.reduceBEq, String.reduceEq, Bool.false_or, Bool.true_or, Bool.or_false, Bool.or_true, Rw.enc, Row.enc, hd] <;> rfl)
      | op o => cases o <;> (simp only [Row.enc, Op.s] at hd; simp only [szs, fnM, rawM, seqM, ifM, tvM, truM, binM, unM, appM, consA, nilA, varM, conM, retM, retN, asgM, expM, raiseM, passS, callF, app1, app2, noExc, isExc_d, isExc_c, bindS_ok, bindS_err, bindS_stuck, Res.bind_ok, Res.bind_err, Res.bind_stuck, onBl_bl, andT, orT, notT, andV, orV, notV, tupM, lstM, toDs, toD, asD_d, asD_new, frzW_d, newT, newL, slM, slW, someO, noneO, ixW, addW, subW, mulW, modW, cmpW, negW, lenW, intW, tabW, isNonB, isNonW, isNon_d, List.map_cons, List.map_nil, List.length_cons, List.length_nil, List.replicate, List.append_nil, List.nil_append, List.cons_append, List.getElem?_cons_zero, List.getElem?_cons_succ, List.set_cons_zero, List.set_cons_succ, Nat.reduceAdd, Nat.reduceSub, if_true, if_false, ite_true, ite_false, Bool.not_true, Bool.not_false, Bool.and_true, Bool.and_false, Bool.false_eq_true, reduceIte, fin_same, finE_same, fin_new, atI_0, atI_1, atI_2, eqW_ofs, look_ofs, look_nil, dspC, newDc, inW, Option.isSome_some, Option.isSome_none, itM, forM, items_dl, items_dt, methL, methD, arg0, arg1, arg2, appendW, popW, listW, get_new, set_new, isLst_new, pow109, String.reduceBEq, String.reduceEq, Bool.false_or, Bool.true_or, Bool.or_false, Bool.or_true, Rw.enc, Row.enc, Op.s, hd] <;> rfl)
  | call m =>
    simp only [stepT, enterT] at hs
    cases q : lookA m P with
    | none => rw [q] at hs; cases hs
    | some bm =>
      rw [q] at hs
      simp only [Except.ok.injEq, Prod.mk.injEq] at hs
      obtain ⟨rfl, rfl⟩ := hs
      exact fin s st [m] (.inr ⟨m, bm, rfl, q⟩) (by simp only [szs, fnM, rawM, seqM, ifM, tvM, truM, binM, unM, appM, consA, nilA, varM, conM, retM, retN, asgM, expM, raiseM, passS, callF, app1, app2, noExc, isExc_d, isExc_c, bindS_ok, bindS_err, bindS_stuck, Res.bind_ok, Res.bind_err, Res.bind_stuck, onBl_bl, andT, orT, notT, andV, orV, notV, tupM, lstM, toDs, toD, asD_d, asD_new, frzW_d, newT, newL, slM, slW, someO, noneO, ixW, addW, subW, mulW, modW, cmpW, negW, lenW, intW, tabW, isNonB, isNonW, isNon_d, List.map_cons, List.map_nil, List.length_cons, List.length_nil, List.replicate, List.append_nil, List.nil_append, List.cons_append, List.getElem?_cons_zero, List.getElem?_cons_succ, List.set_cons_zero, List.set_cons_succ, Nat.reduceAdd, Nat.reduceSub, if_true, if_false, ite_true, ite_false, Bool.not_true, Bool.not_false, Bool.and_true, Bool.and_false, Bool.false_eq_true, reduceIte, fin_same, finE_same, fin_new, atI_0, atI_1, atI_2, eqW_ofs, look_ofs, look_nil, dspC, newDc, inW, Option.isSome_some, Option.isSome_none, itM, forM, items_dl, items_dt, methL, methD, arg0, arg1, arg2, appendW, popW, listW, get_new, set_new, isLst_new, pow109, String.reduceBEq, String.reduceEq, Bool.false_or, Bool.true_or, Bool.or_false, Bool.or_true, Rw.enc] <;> rfl) ⟨[], by simp⟩ h.stk h.ne rfl (.inl rfl)
  | iff a c =>
    simp only [stepT] at hs
    cases q : need (vs.map Val.kd) [some .num] with
    | some e => rw [q] at hs; cases hs
    | none =>
      rw [q] at hs
      simp only [enterT] at hs
      obtain ⟨us, t, rfl, ht⟩ := top1 q
      have ht := bad_kd ht
      cases t with
      | s _ => cases ht
      | i z =>
        have hlast' : (us ++ [Val.i z]).getLast? = some (.i z) := by simp
        rw [hlast', List.dropLast_concat] at hs
        let m : Str := if some (Val.i z) = some (Val.i 0) then c else a
        replace hs : (match lookA m P with | none => Except.error Exc.block | some _ => Except.ok (us, leaveR P ((m, 0) :: (n, p + 1) :: r))) = Except.ok (vs', fs') := hs
        cases qm : lookA m P with
        | none => rw [qm] at hs; cases hs
        | some bm =>
          rw [qm] at hs
          simp only [Except.ok.injEq, Prod.mk.injEq] at hs
          obtain ⟨rfl, rfl⟩ := hs
          have hcut : cut (encV (us ++ [Val.i z])) (some (-1)) none = [D.int z] := by
            unfold cut
            rw [HT.sIx_none]
            have hl1 : (encV (us ++ [Val.i z])).length = us.length + 1 := by simp
            have hs1 : HT.sIx (encV (us ++ [Val.i z])).length 0 (some (-1)) = us.length := by
              rw [hl1]; unfold HT.sIx; simp only; rw [if_pos (by omega)]; omega
            rw [hs1, hl1, show encV (us ++ [Val.i z]) = encV us ++ [D.int z] from by simp [Val.enc], show us.length = (encV us).length from by simp, List.drop_left]
            simp
          have hk := kinds_of_ok [.i z] (.d (.lst [D.int z])) st rfl ⟨_, rfl⟩ (by simp)
          have hk' : s_p_kinds_of [.d (.lst [D.int z])] st = .ok (.d (.tup [.str "num"])) st := hk
          have hn := need_ok [.num] [some .num] st (by simp)
          have hn' : s_p_need [.d (.tup [.str "num"]), .d (.tup [.str "num"])] st = .ok (.d .non) st := by
            have e : need [Kd.num] [some .num] = none := by decide
            rw [e] at hn
            exact hn
          have hc1 := cut1 us (.i z)
          have ha1 := at1 us (.i z)
          have hz0 : (encV us).length ≤ sizeLine := small (by simp at hl ⊢; omega)
          have hstl := h.lt.2.2
          refine fin st.length (st ++ [.lst (encV us)]) [m] (.inr ⟨m, bm, rfl, qm⟩) ?_ ⟨_, rfl⟩ (by simp) (by omega) rfl (.inr (Nat.le_refl _))
          have ei : ∀ st, binM ixW (varM 3) (binM (addW false) (conM (.int 1)) (appM (app1 intW) (consA (binM (eqW false) (binM ixW (varM 4) (unM negW (conM (.int 1)))) (conM (.int 0))) nilA))) (SE' j n p (.iff a c) s [] none) st = .ok (.d (.str m)) st ∨ asD st (.c s) ≠ some (.lst (encV (us ++ [Val.i z]))) := fun st1 => by
            by_cases hh : asD st1 (.c s) = some (.lst (encV (us ++ [Val.i z])))
            · left
              simp only [Val.enc] at ha1
              by_cases h0 : z = 0
              · have hm : m = c := by simp only [m, h0, if_true]
                have hzb : (z == 0) = true := by simpa using h0
                rw [hm]
                simp only [szs, fnM, rawM, seqM, ifM, tvM, truM, binM, unM, appM, consA, nilA, varM, conM, retM, retN, asgM, expM, raiseM, passS, callF, app1, app2, noExc, isExc_d, isExc_c, bindS_ok, bindS_err, bindS_stuck, Res.bind_ok, Res.bind_err, Res.bind_stuck, onBl_bl, andT, orT, notT, andV, orV, notV, tupM, lstM, toDs, toD, asD_d, asD_new, frzW_d, newT, newL, slM, slW, someO, noneO, ixW, addW, subW, mulW, modW, cmpW, negW, lenW, intW, tabW, isNonB, isNonW, isNon_d, List.map_cons, List.map_nil, List.length_cons, List.length_nil, List.replicate, List.append_nil, List.nil_append, List.cons_append, List.getElem?_cons_zero, List.getElem?_cons_succ, List.set_cons_zero, List.set_cons_succ, Nat.reduceAdd, Nat.reduceSub, if_true, if_false, ite_true, ite_false, Bool.not_true, Bool.not_false, Bool.and_true, Bool.and_false, Bool.false_eq_true, reduceIte, fin_same, finE_same, fin_new, atI_0, atI_1, atI_2, eqW_ofs, look_ofs, look_nil, dspC, newDc, inW, Option.isSome_some, Option.isSome_none, itM, forM, items_dl, items_dt, methL, methD, arg0, arg1, arg2, appendW, popW, listW, get_new, set_new, isLst_new, pow109, String.reduceBEq, String.reduceEq, Bool.false_or, Bool.true_or, Bool.or_false, Bool.or_true, Rw.enc, hh, Int.reduceNeg, ha1, eqW_int, hzb]
                rfl
              · have hm : m = a := by
                  simp only [m]
                  rw [if_neg (by intro e; injection e with e; injection e with e; exact h0 e)]
                have hzb : (z == 0) = false := by simpa using h0
                rw [hm]
                simp only [szs, fnM, rawM, seqM, ifM, tvM, truM, binM, unM, appM, consA, nilA, varM, conM, retM, retN, asgM, expM, raiseM, passS, callF, app1, app2, noExc, isExc_d, isExc_c, bindS_ok, bindS_err, bindS_stuck, Res.bind_ok, Res.bind_err, Res.bind_stuck, onBl_bl, andT, orT, notT, andV, orV, notV, tupM, lstM, toDs, toD, asD_d, asD_new, frzW_d, newT, newL, slM, slW, someO, noneO, ixW, addW, subW, mulW, modW, cmpW, negW, lenW, intW, tabW, isNonB, isNonW, isNon_d, List.map_cons, List.map_nil, List.length_cons, List.length_nil, List.replicate, List.append_nil, List.nil_append, List.cons_append, List.getElem?_cons_zero, List.getElem?_cons_succ, List.set_cons_zero, List.set_cons_succ, Nat.reduceAdd, Nat.reduceSub, if_true, if_false, ite_true, ite_false, Bool.not_true, Bool.not_false, Bool.and_true, Bool.and_false, Bool.false_eq_true, reduceIte, fin_same, finE_same, fin_new, atI_0, atI_1, atI_2, eqW_ofs, look_ofs, look_nil, dspC, newDc, inW, Option.isSome_some, Option.isSome_none, itM, forM, items_dl, items_dt, methL, methD, arg0, arg1, arg2, appendW, popW, listW, get_new, set_new, isLst_new, pow109, String.reduceBEq, String.reduceEq, Bool.false_or, Bool.true_or, Bool.or_false, Bool.or_true, Rw.enc, hh, Int.reduceNeg, ha1, eqW_int, hzb]
                rfl
            · exact .inr hh
          have ei' := (ei st).resolve_right (fun hh => hh haS)
          have e5 : asgM 5 (lstM false (consA (binM ixW (varM 3) (binM (addW false) (conM (.int 1)) (appM (app1 intW) (consA (binM (eqW false) (binM ixW (varM 4) (unM negW (conM (.int 1)))) (conM (.int 0))) nilA)))) nilA)) (SE' j n p (.iff a c) s [] none) st = .nx (SE' j n p (.iff a c) s [m] none) st := by
            refine asg_ok (w := .d (.lst [.str m])) ?_
            unfold lstM
            simp only [consA, nilA, ei', Res.bind_ok]
            simp only [szs, fnM, rawM, seqM, ifM, tvM, truM, binM, unM, appM, consA, nilA, varM, conM, retM, retN, asgM, expM, raiseM, passS, callF, app1, app2, noExc, isExc_d, isExc_c, bindS_ok, bindS_err, bindS_stuck, Res.bind_ok, Res.bind_err, Res.bind_stuck, onBl_bl, andT, orT, notT, andV, orV, notV, tupM, lstM, toDs, toD, asD_d, asD_new, frzW_d, newT, newL, slM, slW, someO, noneO, ixW, addW, subW, mulW, modW, cmpW, negW, lenW, intW, tabW, isNonB, isNonW, isNon_d, List.map_cons, List.map_nil, List.length_cons, List.length_nil, List.replicate, List.append_nil, List.nil_append, List.cons_append, List.getElem?_cons_zero, List.getElem?_cons_succ, List.set_cons_zero, List.set_cons_succ, Nat.reduceAdd, Nat.reduceSub, if_true, if_false, ite_true, ite_false, Bool.not_true, Bool.not_false, Bool.and_true, Bool.and_false, Bool.false_eq_true, reduceIte, fin_same, finE_same, fin_new, atI_0, atI_1, atI_2, eqW_ofs, look_ofs, look_nil, dspC, newDc, inW, Option.isSome_some, Option.isSome_none, itM, forM, items_dl, items_dt, methL, methD, arg0, arg1, arg2, appendW, popW, listW, get_new, set_new, isLst_new, pow109, String.reduceBEq, String.reduceEq, Bool.false_or, Bool.true_or, Bool.or_false, Bool.or_true]
          refine (if_f (s := st) (by simp only [szs, fnM, rawM, seqM, ifM, tvM, truM, binM, unM, appM, consA, nilA, varM, conM, retM, retN, asgM, expM, raiseM, passS, callF, app1, app2, noExc, isExc_d, isExc_c, bindS_ok, bindS_err, bindS_stuck, Res.bind_ok, Res.bind_err, Res.bind_stuck, onBl_bl, andT, orT, notT, andV, orV, notV, tupM, lstM, toDs, toD, asD_d, asD_new, frzW_d, newT, newL, slM, slW, someO, noneO, ixW, addW, subW, mulW, modW, cmpW, negW, lenW, intW, tabW, isNonB, isNonW, isNon_d, List.map_cons, List.map_nil, List.length_cons, List.length_nil, List.replicate, List.append_nil, List.nil_append, List.cons_append, List.getElem?_cons_zero, List.getElem?_cons_succ, List.set_cons_zero, List.set_cons_succ, Nat.reduceAdd, Nat.reduceSub, if_true, if_false, ite_true, ite_false, Bool.not_true, Bool.not_false, Bool.and_true, Bool.and_false, Bool.false_eq_true, reduceIte, fin_same, finE_same, fin_new, atI_0, atI_1, atI_2, eqW_ofs, look_ofs, look_nil, dspC, newDc, inW, Option.isSome_some, Option.isSome_none, itM, forM, items_dl, items_dt, methL, methD, arg0, arg1, arg2, appendW, popW, listW, get_new, set_new, isLst_new, pow109, String.reduceBEq, String.reduceEq, Bool.false_or, Bool.true_or, Bool.or_false, Bool.or_true, Rw.enc])).trans ((if_t (s := st) (by simp only [szs, fnM, rawM, seqM, ifM, tvM, truM, binM, unM, appM, consA, nilA, varM, conM, retM, retN, asgM, expM, raiseM, passS, callF, app1, app2, noExc, isExc_d, isExc_c, bindS_ok, bindS_err, bindS_stuck, Res.bind_ok, Res.bind_err, Res.bind_stuck, onBl_bl, andT, orT, notT, andV, orV, notV, tupM, lstM, toDs, toD, asD_d, asD_new, frzW_d, newT, newL, slM, slW, someO, noneO, ixW, addW, subW, mulW, modW, cmpW, negW, lenW, intW, tabW, isNonB, isNonW, isNon_d, List.map_cons, List.map_nil, List.length_cons, List.length_nil, List.replicate, List.append_nil, List.nil_append, List.cons_append, List.getElem?_cons_zero, List.getElem?_cons_succ, List.set_cons_zero, List.set_cons_succ, Nat.reduceAdd, Nat.reduceSub, if_true, if_false, ite_true, ite_false, Bool.not_true, Bool.not_false, Bool.and_true, Bool.and_false, Bool.false_eq_true, reduceIte, fin_same, finE_same, fin_new, atI_0, atI_1, atI_2, eqW_ofs, look_ofs, look_nil, dspC, newDc, inW, Option.isSome_some, Option.isSome_none, itM, forM, items_dl, items_dt, methL, methD, arg0, arg1, arg2, appendW, popW, listW, get_new, set_new, isLst_new, pow109, String.reduceBEq, String.reduceEq, Bool.false_or, Bool.true_or, Bool.or_false, Bool.or_true, Rw.enc])).trans ?_)
          refine (seq_nx (e := SE' j n p (.iff a c) s [] none) (s := st) (by simp only [szs, fnM, rawM, seqM, ifM, tvM, truM, binM, unM, appM, consA, nilA, varM, conM, retM, retN, asgM, expM, raiseM, passS, callF, app1, app2, noExc, isExc_d, isExc_c, bindS_ok, bindS_err, bindS_stuck, Res.bind_ok, Res.bind_err, Res.bind_stuck, onBl_bl, andT, orT, notT, andV, orV, notV, tupM, lstM, toDs, toD, asD_d, asD_new, frzW_d, newT, newL, slM, slW, someO, noneO, ixW, addW, subW, mulW, modW, cmpW, negW, lenW, intW, tabW, isNonB, isNonW, isNon_d, List.map_cons, List.map_nil, List.length_cons, List.length_nil, List.replicate, List.append_nil, List.nil_append, List.cons_append, List.getElem?_cons_zero, List.getElem?_cons_succ, List.set_cons_zero, List.set_cons_succ, Nat.reduceAdd, Nat.reduceSub, if_true, if_false, ite_true, ite_false, Bool.not_true, Bool.not_false, Bool.and_true, Bool.and_false, Bool.false_eq_true, reduceIte, fin_same, finE_same, fin_new, atI_0, atI_1, atI_2, eqW_ofs, look_ofs, look_nil, dspC, newDc, inW, Option.isSome_some, Option.isSome_none, itM, forM, items_dl, items_dt, methL, methD, arg0, arg1, arg2, appendW, popW, listW, get_new, set_new, isLst_new, pow109, String.reduceBEq, String.reduceEq, Bool.false_or, Bool.true_or, Bool.or_false, Bool.or_true, haS, Int.reduceNeg, hcut, hk', hn'])).trans ?_
          refine (seq_nx e5).trans ?_
          simp only [szs, fnM, rawM, seqM, ifM, tvM, truM, binM, unM, appM, consA, nilA, varM, conM, retM, retN, asgM, expM, raiseM, passS, callF, app1, app2, noExc, isExc_d, isExc_c, bindS_ok, bindS_err, bindS_stuck, Res.bind_ok, Res.bind_err, Res.bind_stuck, onBl_bl, andT, orT, notT, andV, orV, notV, tupM, lstM, toDs, toD, asD_d, asD_new, frzW_d, newT, newL, slM, slW, someO, noneO, ixW, addW, subW, mulW, modW, cmpW, negW, lenW, intW, tabW, isNonB, isNonW, isNon_d, List.map_cons, List.map_nil, List.length_cons, List.length_nil, List.replicate, List.append_nil, List.nil_append, List.cons_append, List.getElem?_cons_zero, List.getElem?_cons_succ, List.set_cons_zero, List.set_cons_succ, Nat.reduceAdd, Nat.reduceSub, if_true, if_false, ite_true, ite_false, Bool.not_true, Bool.not_false, Bool.and_true, Bool.and_false, Bool.false_eq_true, reduceIte, fin_same, finE_same, fin_new, atI_0, atI_1, atI_2, eqW_ofs, look_ofs, look_nil, dspC, newDc, inW, Option.isSome_some, Option.isSome_none, itM, forM, items_dl, items_dt, methL, methD, arg0, arg1, arg2, appendW, popW, listW, get_new, set_new, isLst_new, pow109, String.reduceBEq, String.reduceEq, Bool.false_or, Bool.true_or, Bool.or_false, Bool.or_true, haS, Int.reduceNeg, hc1, hz0] <;> rfl
end
end Py

namespace Py
open PySem L2
noncomputable abbrev rnC : M Bool := (notT (tvM (methM "over" s_m_over (varM 4))))
noncomputable abbrev rnB : MS := (seqM (ifM (tvM (binM (eqW false) (varM 3) (conM (.int 0))))
  (raiseM .dry)
  passS)
  (seqM (expM (methM "step" s_m_step (varM 4)))
  (asgM 3 (binM subW (varM 3) (conM (.int 1))))))
section
variable {P : Prg} {Rz : Str → Prop} {outs : List Kd} (hgood : ∀ m, Rz m → ∃ b, lookA m P = some b ∧ GoodB (telP P) b) (hreach : ∀ n b m, Rz n → lookA n P = some b → m ∈ named b → Rz m) (hP : PrgOk P)
include hgood hreach hP
end
theorem seq_err {a b : MS} {env e : Env} {st s : Store} {c : Exc} (h : a env st = .err c e s) : seqM a b env st = .err c e s := by
  unfold seqM; rw [h]
theorem fnM_err {a n : Nat} {body : MS} {ws : List W} {st st' : Store} {env : Env} {c : Exc} (hl : ws.length = a) (h : body (ws.map some ++ List.replicate (n - a) none) st = .err c env st') : fnM a n body ws st = finE st c st' := by
  unfold fnM; rw [if_pos hl, h]
theorem take_same {st st' : Store} {j f : Nat} (h : Pres j f st st') (n : Nat) (hn : n ≤ st.length) (hj : n ≤ j) (hf : n ≤ f) : st'.take n = st.take n := by
  refine List.ext_getElem? fun i => ?_
  by_cases hi : i < n
  · rw [List.getElem?_take_of_lt hi, List.getElem?_take_of_lt hi]
    exact h.2 i (by omega) (by omega) (by omega)
  · rw [List.getElem?_take, List.getElem?_take, if_neg hi, if_neg hi]
end Py

namespace Py
open PySem L2
theorem try_nrm {body : MS} {hs : List (List Exc × MS)} {env : Env} {st s : Store} {w : W} (h : body env st = .ret w s) : tryM body hs env st = .ret w s := by
  unfold tryM; rw [h]
theorem try_err {body : MS} {hs : List (List Exc × MS)} {env e : Env} {st s : Store} {c : Exc} (h : body env st = .err c e s) : tryM body hs env st = handle c hs e s := by
  unfold tryM; rw [h]
end Py

namespace Py
open PySem L2
end Py

namespace Py
open PySem L2
end Py

namespace Py
open PySem L2
section
variable {st : Store} {w : W} {P : Prg} {vs : List Val} {n : Str} {p : Nat} {r : Frs}
end
end Py

namespace Py
open PySem L2
section
variable {st : Store} {j s f : Nat} {pw : W} {P : Prg} {vs : List Val} {n : Str} {p : Nat} {r : Frs}
/-- a block that is not there: the second half -/
theorem stepB_err (h : Mat st j s f pw P vs ((n, p) :: r)) (l : Nat) (row : Rw) (m : Str) (hm : lookA m P = none) :
    stB (SE' j n p row l [m] none) st = .err .block (SE' j n p row l [m] (some (.d (.str m)))) st := by
  have hx := h.px
  have hfP := h.fP
  have hblk := p_block_none pw (encP P) m st h.pr (by rw [lookP, hm]; rfl)
  refine seq_err ?_
  have hit : itM (varM 5) (SE' j n p row l [m] none) st = .ok [.str m] st := by simp only [szs, fnM, rawM, seqM, ifM, tvM, truM, binM, unM, appM, consA, nilA, varM, conM, retM, retN, asgM, expM, raiseM, passS, callF, app1, app2, noExc, isExc_d, isExc_c, bindS_ok, bindS_err, bindS_stuck, Res.bind_ok, Res.bind_err, Res.bind_stuck, onBl_bl, andT, orT, notT, andV, orV, notV, tupM, lstM, toDs, toD, asD_d, asD_new, frzW_d, newT, newL, slM, slW, someO, noneO, ixW, addW, subW, mulW, modW, cmpW, negW, lenW, intW, tabW, isNonB, isNonW, isNon_d, List.map_cons, List.map_nil, List.length_cons, List.length_nil, List.replicate, List.append_nil, List.nil_append, List.cons_append, List.getElem?_cons_zero, List.getElem?_cons_succ, List.set_cons_zero, List.set_cons_succ, Nat.reduceAdd, Nat.reduceSub, if_true, if_false, ite_true, ite_false, Bool.not_true, Bool.not_false, Bool.and_true, Bool.and_false, Bool.false_eq_true, reduceIte, fin_same, finE_same, fin_new, atI_0, atI_1, atI_2, eqW_ofs, look_ofs, look_nil, dspC, newDc, inW, Option.isSome_some, Option.isSome_none, itM, forM, items_dl, items_dt, methL, methD, arg0, arg1, arg2, appendW, popW, listW, get_new, set_new, isLst_new, pow109, String.reduceBEq, String.reduceEq, Bool.false_or, Bool.true_or, Bool.or_false, Bool.or_true]
  have hb : expM (callF s_p_block_of (consA (unM (fldW "program") (varM 0)) (consA (varM 6) nilA))) (SE' j n p row l [m] (some (.d (.str m)))) st = .err .block (SE' j n p row l [m] (some (.d (.str m)))) st := by
    unfold expM
    have : callF s_p_block_of (consA (unM (fldW "program") (varM 0)) (consA (varM 6) nilA)) (SE' j n p row l [m] (some (.d (.str m)))) st = .err .block st := by
      simp only [szs, fnM, rawM, seqM, ifM, tvM, truM, binM, unM, appM, consA, nilA, varM, conM, retM, retN, asgM, expM, raiseM, passS, callF, app1, app2, noExc, isExc_d, isExc_c, bindS_ok, bindS_err, bindS_stuck, Res.bind_ok, Res.bind_err, Res.bind_stuck, onBl_bl, andT, orT, notT, andV, orV, notV, tupM, lstM, toDs, toD, asD_d, asD_new, frzW_d, newT, newL, slM, slW, someO, noneO, ixW, addW, subW, mulW, modW, cmpW, negW, lenW, intW, tabW, isNonB, isNonW, isNon_d, List.map_cons, List.map_nil, List.length_cons, List.length_nil, List.replicate, List.append_nil, List.nil_append, List.cons_append, List.getElem?_cons_zero, List.getElem?_cons_succ, List.set_cons_zero, List.set_cons_succ, Nat.reduceAdd, Nat.reduceSub, if_true, if_false, ite_true, ite_false, Bool.not_true, Bool.not_false, Bool.and_true, Bool.and_false, Bool.false_eq_true, reduceIte, fin_same, finE_same, fin_new, atI_0, atI_1, atI_2, eqW_ofs, look_ofs, look_nil, dspC, newDc, inW, Option.isSome_some, Option.isSome_none, itM, forM, items_dl, items_dt, methL, methD, arg0, arg1, arg2, appendW, popW, listW, get_new, set_new, isLst_new, pow109, String.reduceBEq, String.reduceEq, Bool.false_or, Bool.true_or, Bool.or_false, Bool.or_true, hfP, hx, hblk]
    rw [this]; rfl
  unfold forM
  rw [hit, bindS_ok]
  exact loopS_err (env1 := SE' j n p row l [m] (some (.d (.str m)))) rfl hb
theorem stepS_err (h : Mat st j s f pw P vs ((n, p) :: r)) {b : Blk} (hb : lookA n P = some b) (hp : p < b.rows.length) (hro : ∀ x ∈ b.rows, x.ok) (hv : ∀ v ∈ vs, v.ok) (hl : vs.length ≤ 200000) {e : Exc} (hs : stepT P vs n p r b.rows[p] = .error e) :
    ∃ g : Store, s_m_step [.c j] st = .err e (st ++ g) := by
  have hrow := hro _ (List.getElem_mem hp)
  have hx := h.px
  have hfF := h.fF
  have haF := h.aF
  have hfS := h.fS
  have hfP := h.fP
  have hpr := h.pr
  have hlast := lastF n p r
  have hlk : look n (encP P) = some (.tup [.tup (encK b.ins), .tup (encK b.outs), .lst (encR b.rows)]) := by rw [lookP, hb]; rfl
  have hat : atI (encR b.rows) (p : Int) = some (b.rows[p]).enc := by rw [atI_nat, List.getElem?_map, List.getElem?_eq_getElem hp]; rfl
  have hov := over_ok h
  have hmo := meth_ok (st := st) (m := "over") (F := s_m_over) (o := varM 0) (env := [some (.c j), none, none, none, none, none, none]) (j := j) rfl h.obj (nm_over _ _ _)
  have hov' : methM "over" s_m_over (varM 0) [some (.c j), none, none, none, none, none, none] st = .ok (.d (.bl false)) st := by rw [hmo, hov]; rfl
  have pre : ∀ rest : MS, seqM (ifM (tvM (methM "over" s_m_over (varM 0))) retN passS)
      (seqM (asgTM [1, 2] (binM ixW (unM (fldW "frames") (varM 0)) (unM negW (conM (.int 1)))))
      (seqM (asgM 3 (binM ixW (binM ixW (binM ixW (unM (fldW "program") (varM 0)) (varM 1)) (conM (.int 2))) (varM 2)))
      (seqM (asgM 4 (unM (fldW "stack") (varM 0)))
      (seqM (asgM 5 (lstM false nilA)) rest)))) [some (.c j), none, none, none, none, none, none] st = rest (SE' j n p b.rows[p] s [] none) st := fun rest => by
    refine (seq_nx (e := [some (.c j), none, none, none, none, none, none]) (s := st) ((if_f (s := st) (by unfold tvM; rw [hov']; rfl)).trans rfl)).trans ?_
    refine (seq_nx (e := [some (.c j), some (.d (.str n)), some (.d (.int p)), none, none, none, none]) (s := st) (by simp only [szs, fnM, rawM, seqM, ifM, tvM, truM, binM, unM, appM, consA, nilA, varM, conM, retM, retN, asgM, expM, raiseM, passS, callF, app1, app2, noExc, isExc_d, isExc_c, bindS_ok, bindS_err, bindS_stuck, Res.bind_ok, Res.bind_err, Res.bind_stuck, onBl_bl, andT, orT, notT, andV, orV, notV, tupM, lstM, toDs, toD, asD_d, asD_new, frzW_d, newT, newL, slM, slW, someO, noneO, ixW, addW, subW, mulW, modW, cmpW, negW, lenW, intW, tabW, isNonB, isNonW, isNon_d, List.map_cons, List.map_nil, List.length_cons, List.length_nil, List.replicate, List.append_nil, List.nil_append, List.cons_append, List.getElem?_cons_zero, List.getElem?_cons_succ, List.set_cons_zero, List.set_cons_succ, Nat.reduceAdd, Nat.reduceSub, if_true, if_false, ite_true, ite_false, Bool.not_true, Bool.not_false, Bool.and_true, Bool.and_false, Bool.false_eq_true, reduceIte, fin_same, finE_same, fin_new, atI_0, atI_1, atI_2, eqW_ofs, look_ofs, look_nil, dspC, newDc, inW, Option.isSome_some, Option.isSome_none, itM, forM, items_dl, items_dt, methL, methD, arg0, arg1, arg2, appendW, popW, listW, get_new, set_new, isLst_new, pow109, String.reduceBEq, String.reduceEq, Bool.false_or, Bool.true_or, Bool.or_false, Bool.or_true, asgTM, hfF, haF, Int.reduceNeg, hlast, sets])).trans ?_
    refine (seq_nx (e := [some (.c j), some (.d (.str n)), some (.d (.int p)), some (.d (b.rows[p]).enc), none, none, none]) (s := st) (by simp only [szs, fnM, rawM, seqM, ifM, tvM, truM, binM, unM, appM, consA, nilA, varM, conM, retM, retN, asgM, expM, raiseM, passS, callF, app1, app2, noExc, isExc_d, isExc_c, bindS_ok, bindS_err, bindS_stuck, Res.bind_ok, Res.bind_err, Res.bind_stuck, onBl_bl, andT, orT, notT, andV, orV, notV, tupM, lstM, toDs, toD, asD_d, asD_new, frzW_d, newT, newL, slM, slW, someO, noneO, ixW, addW, subW, mulW, modW, cmpW, negW, lenW, intW, tabW, isNonB, isNonW, isNon_d, List.map_cons, List.map_nil, List.length_cons, List.length_nil, List.replicate, List.append_nil, List.nil_append, List.cons_append, List.getElem?_cons_zero, List.getElem?_cons_succ, List.set_cons_zero, List.set_cons_succ, Nat.reduceAdd, Nat.reduceSub, if_true, if_false, ite_true, ite_false, Bool.not_true, Bool.not_false, Bool.and_true, Bool.and_false, Bool.false_eq_true, reduceIte, fin_same, finE_same, fin_new, atI_0, atI_1, atI_2, eqW_ofs, look_ofs, look_nil, dspC, newDc, inW, Option.isSome_some, Option.isSome_none, itM, forM, items_dl, items_dt, methL, methD, arg0, arg1, arg2, appendW, popW, listW, get_new, set_new, isLst_new, pow109, String.reduceBEq, String.reduceEq, Bool.false_or, Bool.true_or, Bool.or_false, Bool.or_true, hfP, hpr, hlk, hat])).trans ?_
    refine (seq_nx (e := [some (.c j), some (.d (.str n)), some (.d (.int p)), some (.d (b.rows[p]).enc), some (.c s), none, none]) (s := st) (by simp only [szs, fnM, rawM, seqM, ifM, tvM, truM, binM, unM, appM, consA, nilA, varM, conM, retM, retN, asgM, expM, raiseM, passS, callF, app1, app2, noExc, isExc_d, isExc_c, bindS_ok, bindS_err, bindS_stuck, Res.bind_ok, Res.bind_err, Res.bind_stuck, onBl_bl, andT, orT, notT, andV, orV, notV, tupM, lstM, toDs, toD, asD_d, asD_new, frzW_d, newT, newL, slM, slW, someO, noneO, ixW, addW, subW, mulW, modW, cmpW, negW, lenW, intW, tabW, isNonB, isNonW, isNon_d, List.map_cons, List.map_nil, List.length_cons, List.length_nil, List.replicate, List.append_nil, List.nil_append, List.cons_append, List.getElem?_cons_zero, List.getElem?_cons_succ, List.set_cons_zero, List.set_cons_succ, Nat.reduceAdd, Nat.reduceSub, if_true, if_false, ite_true, ite_false, Bool.not_true, Bool.not_false, Bool.and_true, Bool.and_false, Bool.false_eq_true, reduceIte, fin_same, finE_same, fin_new, atI_0, atI_1, atI_2, eqW_ofs, look_ofs, look_nil, dspC, newDc, inW, Option.isSome_some, Option.isSome_none, itM, forM, items_dl, items_dt, methL, methD, arg0, arg1, arg2, appendW, popW, listW, get_new, set_new, isLst_new, pow109, String.reduceBEq, String.reduceEq, Bool.false_or, Bool.true_or, Bool.or_false, Bool.or_true, hfS])).trans ?_
    exact seq_nx (by simp only [szs, fnM, rawM, seqM, ifM, tvM, truM, binM, unM, appM, consA, nilA, varM, conM, retM, retN, asgM, expM, raiseM, passS, callF, app1, app2, noExc, isExc_d, isExc_c, bindS_ok, bindS_err, bindS_stuck, Res.bind_ok, Res.bind_err, Res.bind_stuck, onBl_bl, andT, orT, notT, andV, orV, notV, tupM, lstM, toDs, toD, asD_d, asD_new, frzW_d, newT, newL, slM, slW, someO, noneO, ixW, addW, subW, mulW, modW, cmpW, negW, lenW, intW, tabW, isNonB, isNonW, isNon_d, List.map_cons, List.map_nil, List.length_cons, List.length_nil, List.replicate, List.append_nil, List.nil_append, List.cons_append, List.getElem?_cons_zero, List.getElem?_cons_succ, List.set_cons_zero, List.set_cons_succ, Nat.reduceAdd, Nat.reduceSub, if_true, if_false, ite_true, ite_false, Bool.not_true, Bool.not_false, Bool.and_true, Bool.and_false, Bool.false_eq_true, reduceIte, fin_same, finE_same, fin_new, atI_0, atI_1, atI_2, eqW_ofs, look_ofs, look_nil, dspC, newDc, inW, Option.isSome_some, Option.isSome_none, itM, forM, items_dl, items_dt, methL, methD, arg0, arg1, arg2, appendW, popW, listW, get_new, set_new, isLst_new, pow109, String.reduceBEq, String.reduceEq, Bool.false_or, Bool.true_or, Bool.or_false, Bool.or_true] <;> rfl)
  have haS := h.aS
  generalize hrw : b.rows[p] = row at hs hrow pre
  have fin : ∀ (env' : Env) (g : Store), (seqM stA stB) (SE' j n p row s [] none) st = .err e env' (st ++ g) → ∃ g : Store, s_m_step [.c j] st = .err e (st ++ g) := fun env' g hE => by
    refine ⟨g, rawM_err (env := env') rfl ?_⟩
    show b_m_step [some (.c j), none, none, none, none, none, none] st = _
    unfold b_m_step
    exact (pre _).trans hE
  cases row with
  | plain r0 =>
    simp only [stepT] at hs
    cases q : need (vs.map Val.kd) r0.wants with
    | none => rw [q] at hs; cases hs
    | some e' =>
      rw [q] at hs
      simp only [Except.error.injEq] at hs
      subst hs
      have hd := done_ok (.c s) vs r0 st haS hv hrow (by omega)
      rw [q] at hd
      simp only at hd
      refine fin (SE' j n p (.plain r0) s [] none) [] (seq_err ?_)
      rw [List.append_nil]
      cases r0 with
      | num v => simp only [Row.enc] at hd; (simp only [szs, fnM, rawM, seqM, ifM, tvM, truM, binM, unM, appM, consA, nilA, varM, conM, retM, retN, asgM, expM, raiseM, passS, callF, app1, app2, noExc, isExc_d, isExc_c, bindS_ok, bindS_err, bindS_stuck, Res.bind_ok, Res.bind_err, Res.bind_stuck, onBl_bl, andT, orT, notT, andV, orV, notV, tupM, lstM, toDs, toD, asD_d, asD_new, frzW_d, newT, newL, slM, slW, someO, noneO, ixW, addW, subW, mulW, modW, cmpW, negW, lenW, intW, tabW, isNonB, isNonW, isNon_d, List.map_cons, List.map_nil, List.length_cons, List.length_nil, List.replicate, List.append_nil, List.nil_append, List.cons_append, List.getElem?_cons_zero, List.getElem?_cons_succ, List.set_cons_zero, List.set_cons_succ, Nat.reduceAdd, Nat.reduceSub, if_true, if_false, ite_true, ite_false, Bool.not_true, Bool.not_false, Bool.and_true, Bool.and_false, Bool.false_eq_true, reduceIte, fin_same, finE_same, fin_new, atI_0, atI_1, atI_2, eqW_ofs, look_ofs, look_nil, dspC, newDc, inW, Option.isSome_some, Option.isSome_none, itM, forM, items_dl, items_dt, methL, methD, arg0, arg1, arg2, appendW, popW, listW, get_new, set_new, isLst_new, pow109, String.reduceBEq, String.reduceEq, Bool.false_or, Bool.true_or, Bool.or_false, Bool.or_true, Rw.enc, Row.enc, hd] <;> rfl)
      | text v => simp only [Row.enc] at hd; (simp only [szs, fnM, rawM, seqM, ifM, tvM, truM, binM, unM, appM, consA, nilA, varM, conM, retM, retN, asgM, expM, raiseM, passS, callF, app1, app2, noExc, isExc_d, isExc_c, bindS_ok, bindS_err, bindS_stuck, Res.bind_ok, Res.bind_err, Res.bind_stuck, onBl_bl, andT, orT, notT, andV, orV, notV, tupM, lstM, toDs, toD, asD_d, asD_new, frzW_d, newT, newL, slM, slW, someO, noneO, ixW, addW, subW, mulW, modW, cmpW, negW, lenW, intW, tabW, isNonB, isNonW, isNon_d, List.map_cons, List.map_nil, List.length_cons, List.length_nil, List.replicate, List.append_nil, List.nil_append, List.cons_append, List.getElem?_cons_zero, List.getElem?_cons_succ, List.set_cons_zero, List.set_cons_succ, Nat.reduceAdd, Nat.reduceSub, if_true, if_false, ite_true, ite_false, Bool.not_true, Bool.not_false, Bool.and_true, Bool.and_false, Bool.false_eq_true, reduceIte, fin_same, finE_same, fin_new, atI_0, atI_1, atI_2, eqW_ofs, look_ofs, look_nil, dspC, newDc, inW, Option.isSome_some, Option.isSome_none, itM, forM, items_dl, items_dt, methL, methD, arg0, arg1, arg2, appendW, popW, listW, get_new, set_new, isLst_new, pow109, String.reduceBEq, String.reduceEq, Bool.false_or, Bool.true_or, Bool.or_false, Bool.or_true, Rw.enc, Row.enc, hd] <;> rfl)
      | copy v => simp only [Row.enc] at hd; (simp only [szs, fnM, rawM, seqM, ifM, tvM, truM, binM, unM, appM, consA, nilA, varM, conM, retM, retN, asgM, expM, raiseM, passS, callF, app1, app2, noExc, isExc_d, isExc_c, bindS_ok, bindS_err, bindS_stuck, Res.bind_ok, Res.bind_err, Res.bind_stuck, onBl_bl, andT, orT, notT, andV, orV, notV, tupM, lstM, toDs, toD, asD_d, asD_new, frzW_d, newT, newL, slM, slW, someO, noneO, ixW, addW, subW, mulW, modW, cmpW, negW, lenW, intW, tabW, isNonB, isNonW, isNon_d, List.map_cons, List.map_nil, List.length_cons, List.length_nil, List.replicate, List.append_nil, List.nil_append, List.cons_append, List.getElem?_cons_zero, List.getElem?_cons_succ, List.set_cons_zero, List.set_cons_succ, Nat.reduceAdd, Nat.reduceSub, if_true, if_false, ite_true, ite_false, Bool.not_true, Bool.not_false, Bool.and_true, Bool.and_false, Bool.false_eq_true, reduceIte, fin_same, finE_same, fin_new, atI_0, atI_1, atI_2, eqW_ofs, look_ofs, look_nil, dspC, newDc, inW, Option.isSome_some, Option.isSome_none, itM, forM, items_dl, items_dt, methL, methD, arg0, arg1, arg2, appendW, popW, listW, get_new, set_new, isLst_new, pow109, String.reduceBEq, String.reduceEq, Bool.false_or, Bool.true_or, Bool.or_false, Bool.or_true, Rw.enc, Row.enc, hd] <;> rfl)
      | op o => cases o <;> (simp only [Row.enc, Op.s] at hd; simp only [szs, fnM, rawM, seqM, ifM, tvM, truM, binM, unM, appM, consA, nilA, varM, conM, retM, retN, asgM, expM, raiseM, passS, callF, app1, app2, noExc, isExc_d, isExc_c, bindS_ok, bindS_err, bindS_stuck, Res.bind_ok, Res.bind_err, Res.bind_stuck, onBl_bl, andT, orT, notT, andV, orV, notV, tupM, lstM, toDs, toD, asD_d, asD_new, frzW_d, newT, newL, slM, slW, someO, noneO, ixW, addW, subW, mulW, modW, cmpW, negW, lenW, intW, tabW, isNonB, isNonW, isNon_d, List.map_cons, List.map_nil, List.length_cons, List.length_nil, List.replicate, List.append_nil, List.nil_append, List.cons_append, List.getElem?_cons_zero, List.getElem?_cons_succ, List.set_cons_zero, List.set_cons_succ, Nat.reduceAdd, Nat.reduceSub, if_true, if_false, ite_true, ite_false, Bool.not_true, Bool.not_false, Bool.and_true, Bool.and_false, Bool.false_eq_true, reduceIte, fin_same, finE_same, fin_new, atI_0, atI_1, atI_2, eqW_ofs, look_ofs, look_nil, dspC, newDc, inW, Option.isSome_some, Option.isSome_none, itM, forM, items_dl, items_dt, methL, methD, arg0, arg1, arg2, appendW, popW, listW, get_new, set_new, isLst_new, pow109, String.reduceBEq, String.reduceEq, Bool.false_or, Bool.true_or, Bool.or_false, Bool.or_true, Rw.enc, Row.enc, Op.s, hd] <;> rfl)
  | call m =>
    simp only [stepT, enterT] at hs
    cases q : lookA m P with
    | some bm => rw [q] at hs; cases hs
    | none =>
      rw [q] at hs
      simp only [Except.error.injEq] at hs
      subst hs
      refine fin (SE' j n p (.call m) s [m] (some (.d (.str m)))) [] ?_
      rw [List.append_nil]
      refine (seq_nx (e := SE' j n p (.call m) s [m] none) (s := st) (by simp only [szs, fnM, rawM, seqM, ifM, tvM, truM, binM, unM, appM, consA, nilA, varM, conM, retM, retN, asgM, expM, raiseM, passS, callF, app1, app2, noExc, isExc_d, isExc_c, bindS_ok, bindS_err, bindS_stuck, Res.bind_ok, Res.bind_err, Res.bind_stuck, onBl_bl, andT, orT, notT, andV, orV, notV, tupM, lstM, toDs, toD, asD_d, asD_new, frzW_d, newT, newL, slM, slW, someO, noneO, ixW, addW, subW, mulW, modW, cmpW, negW, lenW, intW, tabW, isNonB, isNonW, isNon_d, List.map_cons, List.map_nil, List.length_cons, List.length_nil, List.replicate, List.append_nil, List.nil_append, List.cons_append, List.getElem?_cons_zero, List.getElem?_cons_succ, List.set_cons_zero, List.set_cons_succ, Nat.reduceAdd, Nat.reduceSub, if_true, if_false, ite_true, ite_false, Bool.not_true, Bool.not_false, Bool.and_true, Bool.and_false, Bool.false_eq_true, reduceIte, fin_same, finE_same, fin_new, atI_0, atI_1, atI_2, eqW_ofs, look_ofs, look_nil, dspC, newDc, inW, Option.isSome_some, Option.isSome_none, itM, forM, items_dl, items_dt, methL, methD, arg0, arg1, arg2, appendW, popW, listW, get_new, set_new, isLst_new, pow109, String.reduceBEq, String.reduceEq, Bool.false_or, Bool.true_or, Bool.or_false, Bool.or_true, Rw.enc] <;> rfl)).trans ?_
      exact stepB_err h s (.call m) m q
  | iff a c =>
    simp only [stepT] at hs
    cases q : need (vs.map Val.kd) [some .num] with
    | some e' =>
      rw [q] at hs
      simp only [Except.error.injEq] at hs
      subst hs
      refine fin (SE' j n p (.iff a c) s [] none) [] (seq_err ?_)
      rw [List.append_nil]
      -- the kinds of the last one
      obtain ⟨ys, hys, hy1, hn⟩ : ∃ ys : List Val, cut (encV vs) (some (-1)) none = encV ys ∧ ys.length ≤ 1 ∧ need (ys.map Val.kd) [some .num] = some e' := by
        rcases List.eq_nil_or_concat vs with hnil | ⟨us, t, hcc⟩
        · subst hnil
          exact ⟨[], rfl, by decide, q⟩
        · rw [List.concat_eq_append] at hcc
          subst hcc
          refine ⟨[t], ?_, by simp, ?_⟩
          · unfold cut
            rw [HT.sIx_none]
            have hl1 : (encV (us ++ [t])).length = us.length + 1 := by simp
            have hs1 : HT.sIx (encV (us ++ [t])).length 0 (some (-1)) = us.length := by
              rw [hl1]; unfold HT.sIx; simp only; rw [if_pos (by omega)]; omega
            rw [hs1, hl1, show encV (us ++ [t]) = encV us ++ encV [t] from by simp, show us.length = (encV us).length from by simp, List.drop_left]
            simp
          · unfold need at q ⊢
            simp only [List.map_append, List.map_cons, List.map_nil, List.length_append, List.length_map, List.length_cons, List.length_nil] at q ⊢
            rw [if_neg (by omega)] at q ⊢
            rw [show us.length + (0 + 1) - (0 + 1) = (us.map Val.kd).length from by rw [List.length_map]; omega, List.drop_left] at q
            simpa using q
      have hz : (encV ys).length ≤ sizeLine := small (by rw [List.length_map]; omega)
      have hk := kinds_of_ok ys (.d (.lst (encV ys))) st rfl ⟨_, rfl⟩ (by omega)
      have hk' : s_p_kinds_of [.d (.lst (encV ys))] st = .ok (.d (.tup (encK (ys.map Val.kd)))) st := hk.trans (by show _ = Res.ok (W.d (D.tup ((ys.map Val.kd).map Kd.enc))) st; rw [List.map_map]; rfl)
      have hne := need_ok (ys.map Val.kd) [some .num] st (by rw [List.length_map]; omega)
      rw [hn] at hne
      have hne' : s_p_need [.d (.tup (encK (ys.map Val.kd))), .d (.tup [.str "num"])] st = .err e' st := hne
      refine (if_f (s := st) (by simp only [szs, fnM, rawM, seqM, ifM, tvM, truM, binM, unM, appM, consA, nilA, varM, conM, retM, retN, asgM, expM, raiseM, passS, callF, app1, app2, noExc, isExc_d, isExc_c, bindS_ok, bindS_err, bindS_stuck, Res.bind_ok, Res.bind_err, Res.bind_stuck, onBl_bl, andT, orT, notT, andV, orV, notV, tupM, lstM, toDs, toD, asD_d, asD_new, frzW_d, newT, newL, slM, slW, someO, noneO, ixW, addW, subW, mulW, modW, cmpW, negW, lenW, intW, tabW, isNonB, isNonW, isNon_d, List.map_cons, List.map_nil, List.length_cons, List.length_nil, List.replicate, List.append_nil, List.nil_append, List.cons_append, List.getElem?_cons_zero, List.getElem?_cons_succ, List.set_cons_zero, List.set_cons_succ, Nat.reduceAdd, Nat.reduceSub, if_true, if_false, ite_true, ite_false, Bool.not_true, Bool.not_false, Bool.and_true, Bool.and_false, Bool.false_eq_true, reduceIte, fin_same, finE_same, fin_new, atI_0, atI_1, atI_2, eqW_ofs, look_ofs, look_nil, dspC, newDc, inW, Option.isSome_some, Option.isSome_none, itM, forM, items_dl, items_dt, methL, methD, arg0, arg1, arg2, appendW, popW, listW, get_new, set_new, isLst_new, pow109, String.reduceBEq, String.reduceEq, Bool.false_or, Bool.true_or, Bool.or_false, Bool.or_true, Rw.enc])).trans ((if_t (s := st) (by simp only [szs, fnM, rawM, seqM, ifM, tvM, truM, binM, unM, appM, consA, nilA, varM, conM, retM, retN, asgM, expM, raiseM, passS, callF, app1, app2, noExc, isExc_d, isExc_c, bindS_ok, bindS_err, bindS_stuck, Res.bind_ok, Res.bind_err, Res.bind_stuck, onBl_bl, andT, orT, notT, andV, orV, notV, tupM, lstM, toDs, toD, asD_d, asD_new, frzW_d, newT, newL, slM, slW, someO, noneO, ixW, addW, subW, mulW, modW, cmpW, negW, lenW, intW, tabW, isNonB, isNonW, isNon_d, List.map_cons, List.map_nil, List.length_cons, List.length_nil, List.replicate, List.append_nil, List.nil_append, List.cons_append, List.getElem?_cons_zero, List.getElem?_cons_succ, List.set_cons_zero, List.set_cons_succ, Nat.reduceAdd, Nat.reduceSub, if_true, if_false, ite_true, ite_false, Bool.not_true, Bool.not_false, Bool.and_true, Bool.and_false, Bool.false_eq_true, reduceIte, fin_same, finE_same, fin_new, atI_0, atI_1, atI_2, eqW_ofs, look_ofs, look_nil, dspC, newDc, inW, Option.isSome_some, Option.isSome_none, itM, forM, items_dl, items_dt, methL, methD, arg0, arg1, arg2, appendW, popW, listW, get_new, set_new, isLst_new, pow109, String.reduceBEq, String.reduceEq, Bool.false_or, Bool.true_or, Bool.or_false, Bool.or_true, Rw.enc])).trans (seq_err ?_))
      simp only [szs, fnM, rawM, seqM, ifM, tvM, truM, binM, unM, appM, consA, nilA, varM, conM, retM, retN, asgM, expM, raiseM, passS, callF, app1, app2, noExc, isExc_d, isExc_c, bindS_ok, bindS_err, bindS_stuck, Res.bind_ok, Res.bind_err, Res.bind_stuck, onBl_bl, andT, orT, notT, andV, orV, notV, tupM, lstM, toDs, toD, asD_d, asD_new, frzW_d, newT, newL, slM, slW, someO, noneO, ixW, addW, subW, mulW, modW, cmpW, negW, lenW, intW, tabW, isNonB, isNonW, isNon_d, List.map_cons, List.map_nil, List.length_cons, List.length_nil, List.replicate, List.append_nil, List.nil_append, List.cons_append, List.getElem?_cons_zero, List.getElem?_cons_succ, List.set_cons_zero, List.set_cons_succ, Nat.reduceAdd, Nat.reduceSub, if_true, if_false, ite_true, ite_false, Bool.not_true, Bool.not_false, Bool.and_true, Bool.and_false, Bool.false_eq_true, reduceIte, fin_same, finE_same, fin_new, atI_0, atI_1, atI_2, eqW_ofs, look_ofs, look_nil, dspC, newDc, inW, Option.isSome_some, Option.isSome_none, itM, forM, items_dl, items_dt, methL, methD, arg0, arg1, arg2, appendW, popW, listW, get_new, set_new, isLst_new, pow109, String.reduceBEq, String.reduceEq, Bool.false_or, Bool.true_or, Bool.or_false, Bool.or_true, haS, Int.reduceNeg, hys, hz, hk', hne']
    | none =>
      rw [q] at hs
      simp only [enterT] at hs
      obtain ⟨us, t, rfl, ht⟩ := top1 q
      have ht := bad_kd ht
      cases t with
      | s _ => cases ht
      | i z =>
        have hlast' : (us ++ [Val.i z]).getLast? = some (.i z) := by simp
        rw [hlast', List.dropLast_concat] at hs
        let m : Str := if some (Val.i z) = some (Val.i 0) then c else a
        replace hs : (match lookA m P with | none => Except.error Exc.block | some _ => Except.ok (us, leaveR P ((m, 0) :: (n, p + 1) :: r))) = Except.error e := hs
        cases qm : lookA m P with
        | some bm => rw [qm] at hs; cases hs
        | none =>
          rw [qm] at hs
          simp only [Except.error.injEq] at hs
          subst hs
          have hcut : cut (encV (us ++ [Val.i z])) (some (-1)) none = [D.int z] := by
            unfold cut
            rw [HT.sIx_none]
            have hl1 : (encV (us ++ [Val.i z])).length = us.length + 1 := by simp
            have hs1 : HT.sIx (encV (us ++ [Val.i z])).length 0 (some (-1)) = us.length := by
              rw [hl1]; unfold HT.sIx; simp only; rw [if_pos (by omega)]; omega
            rw [hs1, hl1, show encV (us ++ [Val.i z]) = encV us ++ [D.int z] from by simp [Val.enc], show us.length = (encV us).length from by simp, List.drop_left]
            simp
          have hk := kinds_of_ok [.i z] (.d (.lst [D.int z])) st rfl ⟨_, rfl⟩ (by simp)
          have hk' : s_p_kinds_of [.d (.lst [D.int z])] st = .ok (.d (.tup [.str "num"])) st := hk
          have hn := need_ok [.num] [some .num] st (by simp)
          have hn' : s_p_need [.d (.tup [.str "num"]), .d (.tup [.str "num"])] st = .ok (.d .non) st := by
            have e : need [Kd.num] [some .num] = none := by decide
            rw [e] at hn
            exact hn
          have hc1 := cut1 us (.i z)
          have ha1 := at1 us (.i z)
          have hz0 : (encV us).length ≤ sizeLine := small (by simp at hl ⊢; omega)
          refine fin (SE' j n p (.iff a c) st.length [m] (some (.d (.str m)))) [.lst (encV us)] ?_
          have ei : binM ixW (varM 3) (binM (addW false) (conM (.int 1)) (appM (app1 intW) (consA (binM (eqW false) (binM ixW (varM 4) (unM negW (conM (.int 1)))) (conM (.int 0))) nilA))) (SE' j n p (.iff a c) s [] none) st = .ok (.d (.str m)) st := by
            simp only [Val.enc] at ha1
            by_cases h0 : z = 0
            · have hm : m = c := by simp only [m, h0, if_true]
              have hzb : (z == 0) = true := by simpa using h0
              rw [hm]
              simp only [szs, fnM, rawM, seqM, ifM, tvM, truM, binM, unM, appM, consA, nilA, varM, conM, retM, retN, asgM, expM, raiseM, passS, callF, app1, app2, noExc, isExc_d, isExc_c, bindS_ok, bindS_err, bindS_stuck, Res.bind_ok, Res.bind_err, Res.bind_stuck, onBl_bl, andT, orT, notT, andV, orV, notV, tupM, lstM, toDs, toD, asD_d, asD_new, frzW_d, newT, newL, slM, slW, someO, noneO, ixW, addW, subW, mulW, modW, cmpW, negW, lenW, intW, tabW, isNonB, isNonW, isNon_d, List.map_cons, List.map_nil, List.length_cons, List.length_nil, List.replicate, List.append_nil, List.nil_append, List.cons_append, List.getElem?_cons_zero, List.getElem?_cons_succ, List.set_cons_zero, List.set_cons_succ, Nat.reduceAdd, Nat.reduceSub, if_true, if_false, ite_true, ite_false, Bool.not_true, Bool.not_false, Bool.and_true, Bool.and_false, Bool.false_eq_true, reduceIte, fin_same, finE_same, fin_new, atI_0, atI_1, atI_2, eqW_ofs, look_ofs, look_nil, dspC, newDc, inW, Option.isSome_some, Option.isSome_none, itM, forM, items_dl, items_dt, methL, methD, arg0, arg1, arg2, appendW, popW, listW, get_new, set_new, isLst_new, pow109, String.reduceBEq, String.reduceEq, Bool.false_or, Bool.true_or, Bool.or_false, Bool.or_true, Rw.enc, haS, Int.reduceNeg, ha1, eqW_int, hzb]
              rfl
            · have hm : m = a := by
                simp only [m]
                rw [if_neg (by intro e; injection e with e; injection e with e; exact h0 e)]
              have hzb : (z == 0) = false := by simpa using h0
              rw [hm]
              simp only [szs, fnM, rawM, seqM, ifM, tvM, truM, binM, unM, appM, consA, nilA, varM, conM, retM, retN, asgM, expM, raiseM, passS, callF, app1, app2, noExc, isExc_d, isExc_c, bindS_ok, bindS_err, bindS_stuck, Res.bind_ok, Res.bind_err, Res.bind_stuck, onBl_bl, andT, orT, notT, andV, orV, notV, tupM, lstM, toDs, toD, asD_d, asD_new, frzW_d, newT, newL, slM, slW, someO, noneO, ixW, addW, subW, mulW, modW, cmpW, negW, lenW, intW, tabW, isNonB, isNonW, isNon_d, List.map_cons, List.map_nil, List.length_cons, List.length_nil, List.replicate, List.append_nil, List.nil_append, List.cons_append, List.getElem?_cons_zero, List.getElem?_cons_succ, List.set_cons_zero, List.set_cons_succ, Nat.reduceAdd, Nat.reduceSub, if_true, if_false, ite_true, ite_false, Bool.not_true, Bool.not_false, Bool.and_true, Bool.and_false, Bool.false_eq_true, reduceIte, fin_same, finE_same, fin_new, atI_0, atI_1, atI_2, eqW_ofs, look_ofs, look_nil, dspC, newDc, inW, Option.isSome_some, Option.isSome_none, itM, forM, items_dl, items_dt, methL, methD, arg0, arg1, arg2, appendW, popW, listW, get_new, set_new, isLst_new, pow109, String.reduceBEq, String.reduceEq, Bool.false_or, Bool.true_or, Bool.or_false, Bool.or_true, Rw.enc, haS, Int.reduceNeg, ha1, eqW_int, hzb]
              rfl
          have e5 : asgM 5 (lstM false (consA (binM ixW (varM 3) (binM (addW false) (conM (.int 1)) (appM (app1 intW) (consA (binM (eqW false) (binM ixW (varM 4) (unM negW (conM (.int 1)))) (conM (.int 0))) nilA)))) nilA)) (SE' j n p (.iff a c) s [] none) st = .nx (SE' j n p (.iff a c) s [m] none) st := by
            refine asg_ok (w := .d (.lst [.str m])) ?_
            unfold lstM
            simp only [consA, nilA, ei, Res.bind_ok]
            simp only [szs, fnM, rawM, seqM, ifM, tvM, truM, binM, unM, appM, consA, nilA, varM, conM, retM, retN, asgM, expM, raiseM, passS, callF, app1, app2, noExc, isExc_d, isExc_c, bindS_ok, bindS_err, bindS_stuck, Res.bind_ok, Res.bind_err, Res.bind_stuck, onBl_bl, andT, orT, notT, andV, orV, notV, tupM, lstM, toDs, toD, asD_d, asD_new, frzW_d, newT, newL, slM, slW, someO, noneO, ixW, addW, subW, mulW, modW, cmpW, negW, lenW, intW, tabW, isNonB, isNonW, isNon_d, List.map_cons, List.map_nil, List.length_cons, List.length_nil, List.replicate, List.append_nil, List.nil_append, List.cons_append, List.getElem?_cons_zero, List.getElem?_cons_succ, List.set_cons_zero, List.set_cons_succ, Nat.reduceAdd, Nat.reduceSub, if_true, if_false, ite_true, ite_false, Bool.not_true, Bool.not_false, Bool.and_true, Bool.and_false, Bool.false_eq_true, reduceIte, fin_same, finE_same, fin_new, atI_0, atI_1, atI_2, eqW_ofs, look_ofs, look_nil, dspC, newDc, inW, Option.isSome_some, Option.isSome_none, itM, forM, items_dl, items_dt, methL, methD, arg0, arg1, arg2, appendW, popW, listW, get_new, set_new, isLst_new, pow109, String.reduceBEq, String.reduceEq, Bool.false_or, Bool.true_or, Bool.or_false, Bool.or_true]
          refine (seq_nx (e := SE' j n p (.iff a c) st.length [m] none) (s := st ++ [.lst (encV us)]) ?_).trans (stepB_err (h.app [.lst (encV us)]) st.length (.iff a c) m qm)
          refine (if_f (s := st) (by simp only [szs, fnM, rawM, seqM, ifM, tvM, truM, binM, unM, appM, consA, nilA, varM, conM, retM, retN, asgM, expM, raiseM, passS, callF, app1, app2, noExc, isExc_d, isExc_c, bindS_ok, bindS_err, bindS_stuck, Res.bind_ok, Res.bind_err, Res.bind_stuck, onBl_bl, andT, orT, notT, andV, orV, notV, tupM, lstM, toDs, toD, asD_d, asD_new, frzW_d, newT, newL, slM, slW, someO, noneO, ixW, addW, subW, mulW, modW, cmpW, negW, lenW, intW, tabW, isNonB, isNonW, isNon_d, List.map_cons, List.map_nil, List.length_cons, List.length_nil, List.replicate, List.append_nil, List.nil_append, List.cons_append, List.getElem?_cons_zero, List.getElem?_cons_succ, List.set_cons_zero, List.set_cons_succ, Nat.reduceAdd, Nat.reduceSub, if_true, if_false, ite_true, ite_false, Bool.not_true, Bool.not_false, Bool.and_true, Bool.and_false, Bool.false_eq_true, reduceIte, fin_same, finE_same, fin_new, atI_0, atI_1, atI_2, eqW_ofs, look_ofs, look_nil, dspC, newDc, inW, Option.isSome_some, Option.isSome_none, itM, forM, items_dl, items_dt, methL, methD, arg0, arg1, arg2, appendW, popW, listW, get_new, set_new, isLst_new, pow109, String.reduceBEq, String.reduceEq, Bool.false_or, Bool.true_or, Bool.or_false, Bool.or_true, Rw.enc])).trans ((if_t (s := st) (by simp only [szs, fnM, rawM, seqM, ifM, tvM, truM, binM, unM, appM, consA, nilA, varM, conM, retM, retN, asgM, expM, raiseM, passS, callF, app1, app2, noExc, isExc_d, isExc_c, bindS_ok, bindS_err, bindS_stuck, Res.bind_ok, Res.bind_err, Res.bind_stuck, onBl_bl, andT, orT, notT, andV, orV, notV, tupM, lstM, toDs, toD, asD_d, asD_new, frzW_d, newT, newL, slM, slW, someO, noneO, ixW, addW, subW, mulW, modW, cmpW, negW, lenW, intW, tabW, isNonB, isNonW, isNon_d, List.map_cons, List.map_nil, List.length_cons, List.length_nil, List.replicate, List.append_nil, List.nil_append, List.cons_append, List.getElem?_cons_zero, List.getElem?_cons_succ, List.set_cons_zero, List.set_cons_succ, Nat.reduceAdd, Nat.reduceSub, if_true, if_false, ite_true, ite_false, Bool.not_true, Bool.not_false, Bool.and_true, Bool.and_false, Bool.false_eq_true, reduceIte, fin_same, finE_same, fin_new, atI_0, atI_1, atI_2, eqW_ofs, look_ofs, look_nil, dspC, newDc, inW, Option.isSome_some, Option.isSome_none, itM, forM, items_dl, items_dt, methL, methD, arg0, arg1, arg2, appendW, popW, listW, get_new, set_new, isLst_new, pow109, String.reduceBEq, String.reduceEq, Bool.false_or, Bool.true_or, Bool.or_false, Bool.or_true, Rw.enc])).trans ?_)
          refine (seq_nx (e := SE' j n p (.iff a c) s [] none) (s := st) (by simp only [szs, fnM, rawM, seqM, ifM, tvM, truM, binM, unM, appM, consA, nilA, varM, conM, retM, retN, asgM, expM, raiseM, passS, callF, app1, app2, noExc, isExc_d, isExc_c, bindS_ok, bindS_err, bindS_stuck, Res.bind_ok, Res.bind_err, Res.bind_stuck, onBl_bl, andT, orT, notT, andV, orV, notV, tupM, lstM, toDs, toD, asD_d, asD_new, frzW_d, newT, newL, slM, slW, someO, noneO, ixW, addW, subW, mulW, modW, cmpW, negW, lenW, intW, tabW, isNonB, isNonW, isNon_d, List.map_cons, List.map_nil, List.length_cons, List.length_nil, List.replicate, List.append_nil, List.nil_append, List.cons_append, List.getElem?_cons_zero, List.getElem?_cons_succ, List.set_cons_zero, List.set_cons_succ, Nat.reduceAdd, Nat.reduceSub, if_true, if_false, ite_true, ite_false, Bool.not_true, Bool.not_false, Bool.and_true, Bool.and_false, Bool.false_eq_true, reduceIte, fin_same, finE_same, fin_new, atI_0, atI_1, atI_2, eqW_ofs, look_ofs, look_nil, dspC, newDc, inW, Option.isSome_some, Option.isSome_none, itM, forM, items_dl, items_dt, methL, methD, arg0, arg1, arg2, appendW, popW, listW, get_new, set_new, isLst_new, pow109, String.reduceBEq, String.reduceEq, Bool.false_or, Bool.true_or, Bool.or_false, Bool.or_true, haS, Int.reduceNeg, hcut, hk', hn'])).trans ?_
          refine (seq_nx e5).trans ?_
          simp only [szs, fnM, rawM, seqM, ifM, tvM, truM, binM, unM, appM, consA, nilA, varM, conM, retM, retN, asgM, expM, raiseM, passS, callF, app1, app2, noExc, isExc_d, isExc_c, bindS_ok, bindS_err, bindS_stuck, Res.bind_ok, Res.bind_err, Res.bind_stuck, onBl_bl, andT, orT, notT, andV, orV, notV, tupM, lstM, toDs, toD, asD_d, asD_new, frzW_d, newT, newL, slM, slW, someO, noneO, ixW, addW, subW, mulW, modW, cmpW, negW, lenW, intW, tabW, isNonB, isNonW, isNon_d, List.map_cons, List.map_nil, List.length_cons, List.length_nil, List.replicate, List.append_nil, List.nil_append, List.cons_append, List.getElem?_cons_zero, List.getElem?_cons_succ, List.set_cons_zero, List.set_cons_succ, Nat.reduceAdd, Nat.reduceSub, if_true, if_false, ite_true, ite_false, Bool.not_true, Bool.not_false, Bool.and_true, Bool.and_false, Bool.false_eq_true, reduceIte, fin_same, finE_same, fin_new, atI_0, atI_1, atI_2, eqW_ofs, look_ofs, look_nil, dspC, newDc, inW, Option.isSome_some, Option.isSome_none, itM, forM, items_dl, items_dt, methL, methD, arg0, arg1, arg2, appendW, popW, listW, get_new, set_new, isLst_new, pow109, String.reduceBEq, String.reduceEq, Bool.false_or, Bool.true_or, Bool.or_false, Bool.or_true, haS, Int.reduceNeg, hc1, hz0] <;> rfl
end
end Py

namespace Py
open PySem L2
/-! ### the way, typed -/
def wayT (P : Prg) : Nat → List Val → Frs → Option Exc × List Val × Nat
  | _, vs, [] => (none, vs, 0)
  | 0, vs, _ :: _ => (some .dry, vs, 0)
  | k + 1, vs, (n, p) :: r => match lookA n P with
    | none => (some .dry, vs, 0)
    | some b => match b.rows[p]? with
      | none => (some .dry, vs, 0)
      | some row => match stepT P vs n p r row with
        | .error e => (some e, vs, 0)
        | .ok (vs', fs') => ((wayT P k vs' fs').1, (wayT P k vs' fs').2.1, (wayT P k vs' fs').2.2 + 1)
theorem wayT_nil (P : Prg) (k : Nat) (vs : List Val) : wayT P k vs [] = (none, vs, 0) := by cases k <;> rfl
theorem wayT_err {P : Prg} {k : Nat} {vs : List Val} {n : Str} {p : Nat} {r : Frs} {b : Blk} (hb : lookA n P = some b) (hp : p < b.rows.length) {e : Exc} (h : stepT P vs n p r b.rows[p] = .error e) : wayT P (k + 1) vs ((n, p) :: r) = (some e, vs, 0) := by
  simp only [wayT, hb, List.getElem?_eq_getElem hp, h]
theorem wayT_ok {P : Prg} {k : Nat} {vs : List Val} {n : Str} {p : Nat} {r : Frs} {b : Blk} (hb : lookA n P = some b) (hp : p < b.rows.length) {vs' : List Val} {fs' : Frs} (h : stepT P vs n p r b.rows[p] = .ok (vs', fs')) : wayT P (k + 1) vs ((n, p) :: r) = ((wayT P k vs' fs').1, (wayT P k vs' fs').2.1, (wayT P k vs' fs').2.2 + 1) := by
  simp only [wayT, hb, List.getElem?_eq_getElem hp, h]
theorem step_ok {P : Prg} {n : Str} {p : Nat} {r : Frs} {b : Blk} (hb : lookA n P = some b) (hp : p < b.rows.length) (hro : ∀ x ∈ b.rows, x.ok) {vs : List Val} (hv : ∀ v ∈ vs, v.ok) (hfr : FrOk P ((n, p) :: r)) {vs' : List Val} {fs' : Frs} (hs : stepT P vs n p r b.rows[p] = .ok (vs', fs')) :
    (∀ v ∈ vs', v.ok) ∧ vs'.length ≤ vs.length + 1 ∧ FrOk P fs' ∧ HdOk P fs' ∧ fs'.length ≤ r.length + 2 := by
  have hrow := hro _ (List.getElem_mem hp)
  have hfr1 : FrOk P ((n, p + 1) :: r) := fun g hg => by
    rcases List.mem_cons.mp hg with e | hg
    · subst e; exact ⟨b, hb, hp⟩
    · exact hfr g (List.mem_cons_of_mem _ hg)
  have ent : ∀ (m : Str) (us : List Val), (∀ v ∈ us, v.ok) → us.length ≤ vs.length + 1 → enterT P m us n p r = .ok (vs', fs') → (∀ v ∈ vs', v.ok) ∧ vs'.length ≤ vs.length + 1 ∧ FrOk P fs' ∧ HdOk P fs' ∧ fs'.length ≤ r.length + 2 := fun m us hu hl he => by
    unfold enterT at he
    cases q : lookA m P with
    | none => rw [q] at he; cases he
    | some bm =>
      rw [q] at he
      simp only [Except.ok.injEq, Prod.mk.injEq] at he
      obtain ⟨rfl, rfl⟩ := he
      have hfr2 : FrOk P ((m, 0) :: (n, p + 1) :: r) := fun g hg => by
        rcases List.mem_cons.mp hg with e | hg
        · subst e; exact ⟨bm, q, Nat.zero_le _⟩
        · exact hfr1 g hg
      have := leave_len (P := P) (fs := (m, 0) :: (n, p + 1) :: r)
      simp only [List.length_cons] at this
      exact ⟨hu, hl, leave_fr hfr2, leave_hd hfr2, by omega⟩
  generalize hrw : b.rows[p] = row at hs hrow
  cases row with
  | plain r0 =>
    simp only [stepT] at hs
    cases q : need (vs.map Val.kd) r0.wants with
    | some e => rw [q] at hs; cases hs
    | none =>
      rw [q] at hs
      simp only [Except.ok.injEq, Prod.mk.injEq] at hs
      obtain ⟨rfl, rfl⟩ := hs
      have := leave_len (P := P) (fs := (n, p + 1) :: r)
      simp only [List.length_cons] at this
      have hdl := doneV_len r0 vs
      exact ⟨doneV_ok r0 vs hrow hv q, by omega, leave_fr hfr1, leave_hd hfr1, by omega⟩
  | call m => exact ent m vs hv (by omega) hs
  | iff a c =>
    simp only [stepT] at hs
    cases q : need (vs.map Val.kd) [some .num] with
    | some e => rw [q] at hs; cases hs
    | none =>
      rw [q] at hs
      exact ent _ vs.dropLast (fun v h => hv v (List.dropLast_subset vs h)) (by rw [List.length_dropLast]; omega) hs
/-! ### the machine's run, typed -/
section
variable {P : Prg} (hP : PrgOk P)
include hP
theorem run_loopT (base j f : Nat) (pw x1 x2 : W) : ∀ (fuel k : Nat) (st : Store) (s : Nat) (vs : List Val) (fs : Frs), Mat st j s f pw P vs fs → (∀ v ∈ vs, v.ok) → FrOk P fs → HdOk P fs → vs.length + fuel ≤ 200000 → fs.length + 2 * fuel ≤ 200000 → fuel < k → base ≤ s → base ≤ st.length →
    ((wayT P fuel vs fs).1 = none ∧ ∃ (env' : Env) (st' : Store) (s' : Nat), whileM rnC rnB k [some pw, some x1, some x2, some (.d (.int fuel)), some (.c j)] st = .nx env' st' ∧ Mat st' j s' f pw P (wayT P fuel vs fs).2.1 [] ∧ Pres j f st st' ∧ env'[4]? = some (some (.c j)) ∧ base ≤ s') ∨
    (∃ (e : Exc) (env' : Env) (st' : Store), (wayT P fuel vs fs).1 = some e ∧ whileM rnC rnB k [some pw, some x1, some x2, some (.d (.int fuel)), some (.c j)] st = .err e env' st' ∧ Pres j f st st') := by
  intro fuel
  induction fuel with
  | zero =>
    intro k st s vs fs h hv hfr hd hl hfl hk hbs hbl
    obtain ⟨k, rfl⟩ : ∃ m, k = m + 1 := ⟨k - 1, by omega⟩
    have hm := meth_ok (st := st) (m := "over") (F := s_m_over) (o := varM 4) (env := [some pw, some x1, some x2, some (.d (.int (0 : Nat))), some (.c j)]) (j := j) rfl h.obj (nm_over _ _ _)
    have hc : rnC [some pw, some x1, some x2, some (.d (.int (0 : Nat))), some (.c j)] st = .ok (!fs.isEmpty) st := by
      show notT _ _ _ = _
      unfold notT tvM
      rw [hm, over_ok h]; rfl
    rw [whileM_succ, hc]
    cases fs with
    | nil => exact .inl ⟨rfl, [some pw, some x1, some x2, some (.d (.int ((0 : Nat) : Int))), some (.c j)], st, s, rfl, h, Pres.refl, rfl, hbs⟩
    | cons g gs =>
      right
      refine ⟨.dry, [some pw, some x1, some x2, some (.d (.int ((0 : Nat) : Int))), some (.c j)], st, rfl, ?_, Pres.refl⟩
      simp only [List.isEmpty, Bool.not_false, bindS_ok, if_true]
      have e : rnB [some pw, some x1, some x2, some (.d (.int ((0 : Nat) : Int))), some (.c j)] st = .err .dry [some pw, some x1, some x2, some (.d (.int ((0 : Nat) : Int))), some (.c j)] st := by
        show seqM _ _ _ _ = _
        unfold seqM
        rw [if_t (s := st) (by simp only [szs, fnM, rawM, seqM, ifM, tvM, truM, binM, unM, appM, consA, nilA, varM, conM, retM, retN, asgM, expM, raiseM, passS, callF, app1, app2, noExc, isExc_d, isExc_c, bindS_ok, bindS_err, bindS_stuck, Res.bind_ok, Res.bind_err, Res.bind_stuck, onBl_bl, andT, orT, notT, andV, orV, notV, tupM, lstM, toDs, toD, asD_d, asD_new, frzW_d, newT, newL, slM, slW, someO, noneO, ixW, addW, subW, mulW, modW, cmpW, negW, lenW, intW, tabW, isNonB, isNonW, isNon_d, List.map_cons, List.map_nil, List.length_cons, List.length_nil, List.replicate, List.append_nil, List.nil_append, List.cons_append, List.getElem?_cons_zero, List.getElem?_cons_succ, List.set_cons_zero, List.set_cons_succ, Nat.reduceAdd, Nat.reduceSub, if_true, if_false, ite_true, ite_false, Bool.not_true, Bool.not_false, Bool.and_true, Bool.and_false, Bool.false_eq_true, reduceIte, fin_same, finE_same, fin_new, atI_0, atI_1, atI_2, eqW_ofs, look_ofs, look_nil, dspC, newDc, inW, Option.isSome_some, Option.isSome_none, itM, forM, items_dl, items_dt, methL, methD, arg0, arg1, arg2, appendW, popW, listW, get_new, set_new, isLst_new, pow109, String.reduceBEq, String.reduceEq, Bool.false_or, Bool.true_or, Bool.or_false, Bool.or_true, eqW_int] <;> rfl)]
        rfl
      rw [e]
  | succ fuel ih =>
    intro k st s vs fs h hv hfr hd hl hfl hk hbs hbl
    obtain ⟨k, rfl⟩ : ∃ m, k = m + 1 := ⟨k - 1, by omega⟩
    have hm := meth_ok (st := st) (m := "over") (F := s_m_over) (o := varM 4) (env := [some pw, some x1, some x2, some (.d (.int ((fuel + 1 : Nat) : Int))), some (.c j)]) (j := j) rfl h.obj (nm_over _ _ _)
    have hc : rnC [some pw, some x1, some x2, some (.d (.int ((fuel + 1 : Nat) : Int))), some (.c j)] st = .ok (!fs.isEmpty) st := by
      show notT _ _ _ = _
      unfold notT tvM
      rw [hm, over_ok h]; rfl
    rw [whileM_succ, hc]
    cases fs with
    | nil => exact .inl ⟨by rw [wayT_nil], [some pw, some x1, some x2, some (.d (.int ((fuel + 1 : Nat) : Int))), some (.c j)], st, s, rfl, by rw [wayT_nil]; exact h, Pres.refl, rfl, hbs⟩
    | cons g gs =>
      obtain ⟨n, p⟩ := g
      obtain ⟨b, hb, hp⟩ := hd
      have hbo : BlkOk b := hP.bl _ (lookA_mem hb)
      simp only [List.length_cons] at hfl
      have hms := meth_ok (st := st) (m := "step") (F := s_m_step) (o := varM 4) (env := [some pw, some x1, some x2, some (.d (.int ((fuel + 1 : Nat) : Int))), some (.c j)]) (j := j) rfl h.obj (nm_step _ _ _)
      have hne : (((fuel + 1 : Nat) : Int) == 0) = false := by rw [beq_eq_false_iff_ne]; omega
      have ef : ∀ rest : MS, seqM (ifM (tvM (binM (eqW false) (varM 3) (conM (.int 0)))) (raiseM .dry) passS) rest [some pw, some x1, some x2, some (.d (.int ((fuel + 1 : Nat) : Int))), some (.c j)] st = rest [some pw, some x1, some x2, some (.d (.int ((fuel + 1 : Nat) : Int))), some (.c j)] st := fun rest =>
        seq_nx (e := [some pw, some x1, some x2, some (.d (.int ((fuel + 1 : Nat) : Int))), some (.c j)]) (s := st) ((if_f (s := st) (by simp only [szs, fnM, rawM, seqM, ifM, tvM, truM, binM, unM, appM, consA, nilA, varM, conM, retM, retN, asgM, expM, raiseM, passS, callF, app1, app2, noExc, isExc_d, isExc_c, bindS_ok, bindS_err, bindS_stuck, Res.bind_ok, Res.bind_err, Res.bind_stuck, onBl_bl, andT, orT, notT, andV, orV, notV, tupM, lstM, toDs, toD, asD_d, asD_new, frzW_d, newT, newL, slM, slW, someO, noneO, ixW, addW, subW, mulW, modW, cmpW, negW, lenW, intW, tabW, isNonB, isNonW, isNon_d, List.map_cons, List.map_nil, List.length_cons, List.length_nil, List.replicate, List.append_nil, List.nil_append, List.cons_append, List.getElem?_cons_zero, List.getElem?_cons_succ, List.set_cons_zero, List.set_cons_succ, Nat.reduceAdd, Nat.reduceSub, if_true, if_false, ite_true, ite_false, Bool.not_true, Bool.not_false, Bool.and_true, Bool.and_false, Bool.false_eq_true, reduceIte, fin_same, finE_same, fin_new, atI_0, atI_1, atI_2, eqW_ofs, look_ofs, look_nil, dspC, newDc, inW, Option.isSome_some, Option.isSome_none, itM, forM, items_dl, items_dt, methL, methD, arg0, arg1, arg2, appendW, popW, listW, get_new, set_new, isLst_new, pow109, String.reduceBEq, String.reduceEq, Bool.false_or, Bool.true_or, Bool.or_false, Bool.or_true, eqW_int, hne])).trans rfl)
      simp only [List.isEmpty, Bool.not_false, bindS_ok, if_true]
      cases hs : stepT P vs n p gs b.rows[p] with
      | error e =>
        obtain ⟨g, e1⟩ := stepS_err h hb hp hbo.ro hv (by omega) hs
        right
        refine ⟨e, [some pw, some x1, some x2, some (.d (.int ((fuel + 1 : Nat) : Int))), some (.c j)], st ++ g, by rw [wayT_err hb hp hs], ?_, Pres.app⟩
        have eB : rnB [some pw, some x1, some x2, some (.d (.int ((fuel + 1 : Nat) : Int))), some (.c j)] st = .err e [some pw, some x1, some x2, some (.d (.int ((fuel + 1 : Nat) : Int))), some (.c j)] (st ++ g) := by
          refine (ef _).trans (seq_err ?_)
          unfold expM
          rw [hms, e1]; rfl
        rw [eB]
      | ok vf =>
        obtain ⟨vs', fs'⟩ := vf
        obtain ⟨g1, g2, g3, g4, g5⟩ := step_ok hb hp hbo.ro hv hfr hs
        obtain ⟨st1, s1, e1, m1, p1, ps⟩ := stepS_ok h hfr (by omega) hb hp hbo.ro hv (by omega) hs
        have eB : rnB [some pw, some x1, some x2, some (.d (.int ((fuel + 1 : Nat) : Int))), some (.c j)] st = .nx [some pw, some x1, some x2, some (.d (.int (fuel : Int))), some (.c j)] st1 := by
          refine (ef _).trans ?_
          refine (seq_nx (e := [some pw, some x1, some x2, some (.d (.int ((fuel + 1 : Nat) : Int))), some (.c j)]) (s := st1) (by unfold expM; rw [hms, e1]; rfl)).trans ?_
          have hsub : ((fuel + 1 : Nat) : Int) - 1 = (fuel : Int) := by omega
          simp only [szs, fnM, rawM, seqM, ifM, tvM, truM, binM, unM, appM, consA, nilA, varM, conM, retM, retN, asgM, expM, raiseM, passS, callF, app1, app2, noExc, isExc_d, isExc_c, bindS_ok, bindS_err, bindS_stuck, Res.bind_ok, Res.bind_err, Res.bind_stuck, onBl_bl, andT, orT, notT, andV, orV, notV, tupM, lstM, toDs, toD, asD_d, asD_new, frzW_d, newT, newL, slM, slW, someO, noneO, ixW, addW, subW, mulW, modW, cmpW, negW, lenW, intW, tabW, isNonB, isNonW, isNon_d, List.map_cons, List.map_nil, List.length_cons, List.length_nil, List.replicate, List.append_nil, List.nil_append, List.cons_append, List.getElem?_cons_zero, List.getElem?_cons_succ, List.set_cons_zero, List.set_cons_succ, Nat.reduceAdd, Nat.reduceSub, if_true, if_false, ite_true, ite_false, Bool.not_true, Bool.not_false, Bool.and_true, Bool.and_false, Bool.false_eq_true, reduceIte, fin_same, finE_same, fin_new, atI_0, atI_1, atI_2, eqW_ofs, look_ofs, look_nil, dspC, newDc, inW, Option.isSome_some, Option.isSome_none, itM, forM, items_dl, items_dt, methL, methD, arg0, arg1, arg2, appendW, popW, listW, get_new, set_new, isLst_new, pow109, String.reduceBEq, String.reduceEq, Bool.false_or, Bool.true_or, Bool.or_false, Bool.or_true, hsub]
        rw [eB]
        simp only
        rw [wayT_ok hb hp hs]
        rcases ih k st1 s1 vs' fs' m1 g1 g3 g4 (by omega) (by omega) (by omega) (by rcases ps with h | h <;> omega) (Nat.le_trans hbl p1.1) with ⟨a0, env', st', s', a1, a2, a3, a4, a5⟩ | ⟨e, env', st', a0, a1, a2⟩
        · exact .inl ⟨a0, env', st', s', a1, a2, p1.trans a3, a4, a5⟩
        · exact .inr ⟨e, env', st', a0, a1, p1.trans a2⟩
/-- a run's end, by the way -/
theorem p_run_ok (st : Store) (pw w : W) (n : Str) (vs : List Val) (fuel : Nat) (hpr : asD st pw = some (.dct (encP P))) (hpc : ∀ i, pw = .c i → ∃ kvs, st[i]? = some (.dct kvs) ∨ st[i]? = some (.frz (.dct kvs)))
    (hw : asD st w = some (.lst (encV vs))) (hv : ∀ v ∈ vs, v.ok) (hl : vs.length + fuel ≤ 100000) (hf : fuel ≤ 90000) :
    match lookA n P with
    | none => s_p_run [pw, .d (.str n), w, .d (.int fuel)] st = .err .block st
    | some _ => match wayT P fuel vs (leaveR P [(n, 0)]) with
      | (none, vs', _) => s_p_run [pw, .d (.str n), w, .d (.int fuel)] st = .ok (.c st.length) (st ++ [.lst (encV vs')])
      | (some e, _, _) => s_p_run [pw, .d (.str n), w, .d (.int fuel)] st = .err e st := by
  have hx : pw.isExc = false := noExc_of hpr
  have hxw : w.isExc = false := noExc_of hw
  cases hb : lookA n P with
  | none =>
    have hblk := p_block_none pw (encP P) n (st ++ [.obj []]) (asD_app hpr _) (by rw [lookP, hb]; rfl)
    let E : Env := [some (.c st.length), some pw, some (.d (.str n)), some w]
    have ei : s_m_init [.c st.length, pw, .d (.str n), w] (st ++ [.obj []]) = .err .block (st ++ [.obj []]) := by
      refine rawM_err (env := E) rfl ?_
      unfold b_m_init
      show seqM _ _ E _ = _
      refine seq_err ?_
      unfold expM
      have : callF s_p_block_of (consA (varM 1) (consA (varM 2) nilA)) E (st ++ [.obj []]) = .err .block (st ++ [.obj []]) := by simp only [szs, fnM, rawM, seqM, ifM, tvM, truM, binM, unM, appM, consA, nilA, varM, conM, retM, retN, asgM, expM, raiseM, passS, callF, app1, app2, noExc, isExc_d, isExc_c, bindS_ok, bindS_err, bindS_stuck, Res.bind_ok, Res.bind_err, Res.bind_stuck, onBl_bl, andT, orT, notT, andV, orV, notV, tupM, lstM, toDs, toD, asD_d, asD_new, frzW_d, newT, newL, slM, slW, someO, noneO, ixW, addW, subW, mulW, modW, cmpW, negW, lenW, intW, tabW, isNonB, isNonW, isNon_d, List.map_cons, List.map_nil, List.length_cons, List.length_nil, List.replicate, List.append_nil, List.nil_append, List.cons_append, List.getElem?_cons_zero, List.getElem?_cons_succ, List.set_cons_zero, List.set_cons_succ, Nat.reduceAdd, Nat.reduceSub, if_true, if_false, ite_true, ite_false, Bool.not_true, Bool.not_false, Bool.and_true, Bool.and_false, Bool.false_eq_true, reduceIte, fin_same, finE_same, fin_new, atI_0, atI_1, atI_2, eqW_ofs, look_ofs, look_nil, dspC, newDc, inW, Option.isSome_some, Option.isSome_none, itM, forM, items_dl, items_dt, methL, methD, arg0, arg1, arg2, appendW, popW, listW, get_new, set_new, isLst_new, pow109, String.reduceBEq, String.reduceEq, Bool.false_or, Bool.true_or, Bool.or_false, Bool.or_true, E, hx, hblk]
      rw [this]; rfl
    have hmk : mkM s_m_init (consA (varM 0) (consA (varM 1) (consA (varM 2) nilA))) [some pw, some (.d (.str n)), some w, some (.d (.int fuel)), none] st = .err .block (st ++ [.obj []]) := by
      unfold mkM
      have hne : noExc [pw, .d (.str n), w] = true := by simp [noExc, hx, hxw, isExc_d]
      simp only [consA, nilA, varM, List.getElem?_cons_zero, List.getElem?_cons_succ, Res.bind_ok, hne, if_true, ei]
      rfl
    refine (fnM_err (c := .block) (env := [some pw, some (.d (.str n)), some w, some (.d (.int fuel)), none]) (st' := st ++ [.obj []]) rfl ?_).trans ?_
    · show b_p_run [some pw, some (.d (.str n)), some w, some (.d (.int fuel)), none] st = _
      unfold b_p_run
      refine seq_err ?_
      unfold asgM
      rw [hmk]; rfl
    · unfold finE
      rw [if_pos ⟨by simp, fun k fs hk h => by rwa [List.getElem?_append_left hk] at h⟩]
      simp
  | some b =>
    simp only
    obtain ⟨ei, hm⟩ := init_ok st pw w P n b vs hpr hpc hb hw (by omega)
    have hfr0 : FrOk P [(n, 0)] := fun g hg => by rw [List.mem_singleton] at hg; subst hg; exact ⟨b, hb, Nat.zero_le _⟩
    have hd : HdOk P (leaveR P [(n, 0)]) := leave_hd hfr0
    have hll := leave_len (P := P) (fs := [(n, 0)])
    simp only [List.length_singleton] at hll
    let st1 : Store := st ++ [.obj (objF pw (st.length + 1) (st.length + 2)), .lst (encV vs), .lst (encF (leaveR P [(n, 0)]))]
    have hmk : mkM s_m_init (consA (varM 0) (consA (varM 1) (consA (varM 2) nilA))) [some pw, some (.d (.str n)), some w, some (.d (.int fuel)), none] st = .ok (.c st.length) st1 := by
      unfold mkM
      have hne : noExc [pw, .d (.str n), w] = true := by simp [noExc, hx, hxw, isExc_d]
      simp only [consA, nilA, varM, List.getElem?_cons_zero, List.getElem?_cons_succ, Res.bind_ok, hne, if_true, ei]
      rfl
    have hst1 : st.length ≤ st1.length := by simp only [st1, List.length_append]; omega
    have htk : st1.take st.length = st := by simp [st1]
    have hp1 : Pres st.length (st.length + 2) st st1 := Pres.app
    have loop := run_loopT hP st.length st.length (st.length + 2) pw (.d (.str n)) w fuel 1000000 st1 (st.length + 1) vs (leaveR P [(n, 0)]) hm hv (leave_fr hfr0) hd (by omega) (by omega) (by omega) (by omega) hst1
    have kept : ∀ st', Pres st.length (st.length + 2) st1 st' → Kept st st' := fun st' hp => ⟨Nat.le_trans hst1 hp.1, fun k fs hk h => by rw [← (hp1.trans hp).2 k hk (by omega) (by omega)]; exact h⟩
    have take : ∀ st', Pres st.length (st.length + 2) st1 st' → st'.take st.length = st := fun st' hp => by
      rw [take_same hp st.length hst1 (Nat.le_refl _) (by omega), htk]
    generalize wayT P fuel vs (leaveR P [(n, 0)]) = wy at loop
    obtain ⟨o, vs', m⟩ := wy
    rcases loop with ⟨a0, env', st', s', a1, a2, a5, a6, a8⟩ | ⟨e, env', st', a0, a1, a2⟩
    · simp only at a0 a2
      subst a0
      simp only
      have hfin : fin st (.c s') st' = .ok (.c st.length) (st ++ [.lst (encV vs')]) := by
        unfold fin
        rw [if_pos (kept st' a5)]
        simp only
        rw [if_neg (by omega), a2.stk]
        simp only
        rw [take st' a5]
      refine (fnM_ret rfl ?_).trans hfin
      unfold b_p_run
      refine (seq_nx (e := [some pw, some (.d (.str n)), some w, some (.d (.int fuel)), some (.c st.length)]) (s := st1) (asg_ok hmk)).trans ?_
      refine (seq_nx a1).trans ?_
      have hfS := a2.fS
      simp only [szs, fnM, rawM, seqM, ifM, tvM, truM, binM, unM, appM, consA, nilA, varM, conM, retM, retN, asgM, expM, raiseM, passS, callF, app1, app2, noExc, isExc_d, isExc_c, bindS_ok, bindS_err, bindS_stuck, Res.bind_ok, Res.bind_err, Res.bind_stuck, onBl_bl, andT, orT, notT, andV, orV, notV, tupM, lstM, toDs, toD, asD_d, asD_new, frzW_d, newT, newL, slM, slW, someO, noneO, ixW, addW, subW, mulW, modW, cmpW, negW, lenW, intW, tabW, isNonB, isNonW, isNon_d, List.map_cons, List.map_nil, List.length_cons, List.length_nil, List.replicate, List.append_nil, List.nil_append, List.cons_append, List.getElem?_cons_zero, List.getElem?_cons_succ, List.set_cons_zero, List.set_cons_succ, Nat.reduceAdd, Nat.reduceSub, if_true, if_false, ite_true, ite_false, Bool.not_true, Bool.not_false, Bool.and_true, Bool.and_false, Bool.false_eq_true, reduceIte, fin_same, finE_same, fin_new, atI_0, atI_1, atI_2, eqW_ofs, look_ofs, look_nil, dspC, newDc, inW, Option.isSome_some, Option.isSome_none, itM, forM, items_dl, items_dt, methL, methD, arg0, arg1, arg2, appendW, popW, listW, get_new, set_new, isLst_new, pow109, String.reduceBEq, String.reduceEq, Bool.false_or, Bool.true_or, Bool.or_false, Bool.or_true, a6, hfS]
    · simp only at a0
      subst a0
      simp only
      refine (fnM_err (c := e) (env := env') (st' := st') rfl ?_).trans ?_
      · show b_p_run [some pw, some (.d (.str n)), some w, some (.d (.int fuel)), none] st = _
        unfold b_p_run
        refine (seq_nx (e := [some pw, some (.d (.str n)), some w, some (.d (.int fuel)), some (.c st.length)]) (s := st1) (asg_ok hmk)).trans ?_
        exact seq_err a1
      · unfold finE
        rw [if_pos (kept st' a2), take st' a2]
end
end Py

namespace Py
open PySem L2
section
variable {P : Prg} (hP : PrgOk P) {w : W} {st : Store} (hw : asD st w = some (.dct (encP P))) (n : Str)
include hP hw
end
section
variable {P : Prg} (hP : PrgOk P) {pw w : W} {st : Store} (n : Str) (vs : List Val) (fuel : Nat) (hpr : asD st pw = some (.dct (encP P))) (hpc : ∀ i, pw = .c i → ∃ kvs, st[i]? = some (.dct kvs) ∨ st[i]? = some (.frz (.dct kvs)))
    (hw : asD st w = some (.lst (encV vs))) (hv : ∀ v ∈ vs, v.ok) (hl : vs.length + fuel ≤ 100000) (hf : fuel ≤ 90000)
include hP hpr hpc hw hv hl hf
end
end Py

namespace Py
open PySem L2
/-! ### the told, up to five blocks -/
theorem setD_ok {x i v : M W} {env : Env} {st : Store} {k : Nat} {s : Str} {d : D} {kvs : List (Str × D)} (hv : v env st = .ok (.d d) st) (hx : x env st = .ok (.c k) st) (hi : i env st = .ok (.d (.str s)) st) (hk : st[k]? = some (.dct kvs)) (hl : kvs.length < sizeLine) : setDM x i v env st = .nx env (st.set k (.dct (putD kvs s d))) := by
  unfold setDM
  rw [hv, bindS_ok, hx, bindS_ok, hi, bindS_ok]
  show bindS (Res.ok d st) _ _ = _
  rw [bindS_ok]
  simp only [hk, asD_d, if_pos hl]
section
variable {st : Store} {k : Nat} (hk : k < st.length) (ns : List Int) {F : Fn} (hF : KindsOk F)
include hk hF
end
end Py

namespace Py
open PySem L2
/-! ### heights -/
def mx (l : List Int) : Int := l.foldl max 0
theorem mx_app (l : List Int) (x : Int) : mx (l ++ [x]) = max (mx l) x := by unfold mx; rw [List.foldl_append]; rfl
def insLen (P : Prg) (m : Str) : Int := match lookA m P with | some b => b.ins.length | none => 0
def callV (P : Prg) (g : Str → Int) (ks : List Kd) : Rw → List Int
  | .plain _ => []
  | .call m => [(ks.length : Int) - insLen P m + g m]
  | .iff a c => [(ks.length : Int) - 1 - insLen P a + max (g a) (g c)]
def sizes (tr : List (List Kd)) : List Int := tr.map fun ks => (ks.length : Int)
def callsV (P : Prg) (g : Str → Int) (tr : List (List Kd)) (rs : List Rw) : List Int := (tr.zip rs).flatMap fun p => callV P g p.1 p.2
def valB (P : Prg) (g : Str → Int) (b : Blk) : Int := mx (sizes (wayK (telP P) b).1 ++ callsV P g (wayK (telP P) b).1 b.rows)
theorem callV_congr {P : Prg} {g g' : Str → Int} {ks : List Kd} {r : Rw} (h : ∀ m ∈ r.names, g m = g' m) : callV P g ks r = callV P g' ks r := by
  cases r with
  | plain _ => rfl
  | call m => simp only [callV]; rw [h m (by simp [Rw.names])]
  | iff a c => simp only [callV]; rw [h a (by simp [Rw.names]), h c (by simp [Rw.names])]
theorem callsV_congr {P : Prg} {g g' : Str → Int} : ∀ (tr : List (List Kd)) (rs : List Rw), (∀ r ∈ rs, ∀ m ∈ r.names, g m = g' m) → callsV P g tr rs = callsV P g' tr rs
  | [], _, _ => rfl
  | _ :: _, [], _ => rfl
  | k :: tr, r :: rs, h => by
    show callV P g k r ++ callsV P g tr rs = callV P g' k r ++ callsV P g' tr rs
    rw [callV_congr (h r List.mem_cons_self), callsV_congr tr rs fun x hx => h x (List.mem_cons_of_mem _ hx)]
theorem valB_congr {P : Prg} {g g' : Str → Int} {b : Blk} (h : ∀ m ∈ named b, g m = g' m) : valB P g b = valB P g' b := by
  unfold valB
  rw [callsV_congr _ _ fun r hr m hm => h m (List.mem_flatMap.mpr ⟨r, hr, hm⟩)]
def hF (P : Prg) : Nat → Str → Option Int
  | 0, _ => none
  | d + 1, n => match lookA n P with
    | none => none
    | some b => if (named b).all (fun m => (hF P d m).isSome) = true then some (valB P (fun m => (hF P d m).getD 0) b) else none
theorem hF_inv {P : Prg} {d : Nat} {n : Str} {v : Int} (h : hF P (d + 1) n = some v) : ∃ b, lookA n P = some b ∧ (∀ m ∈ named b, ∃ u, hF P d m = some u) ∧ v = valB P (fun m => (hF P d m).getD 0) b := by
  simp only [hF] at h
  cases q : lookA n P with
  | none => rw [q] at h; cases h
  | some b =>
    rw [q] at h
    simp only at h
    split at h
    · rename_i hall
      cases h
      refine ⟨b, rfl, fun m hm => ?_, rfl⟩
      have := List.all_eq_true.mp hall m hm
      exact Option.isSome_iff_exists.mp this
    · cases h
theorem hF_step {P : Prg} {d : Nat} {n : Str} {b : Blk} {g : Str → Int} (hb : lookA n P = some b) (h : ∀ m ∈ named b, hF P d m = some (g m)) : hF P (d + 1) n = some (valB P g b) := by
  simp only [hF, hb]
  rw [if_pos (List.all_eq_true.mpr fun m hm => by rw [h m hm]; rfl)]
  congr 1
  exact valB_congr fun m hm => by rw [h m hm]; rfl
theorem hF_succ {P : Prg} : ∀ {d : Nat} {n : Str} {v : Int}, hF P d n = some v → hF P (d + 1) n = some v
  | 0, _, _, h => by cases h
  | d + 1, n, v, h => by
    obtain ⟨b, hb, h1, h2⟩ := hF_inv h
    have := hF_step (g := fun m => (hF P d m).getD 0) hb fun m hm => by
      obtain ⟨u, hu⟩ := h1 m hm
      rw [hF_succ hu, hu]; rfl
    rw [this, h2]
theorem hF_le {P : Prg} {d e : Nat} {n : Str} {v : Int} (h : hF P d n = some v) (hl : d ≤ e) : hF P e n = some v := by
  obtain ⟨k, rfl⟩ := Nat.exists_eq_add_of_le hl
  induction k with
  | zero => exact h
  | succ k ih => exact hF_succ (ih (Nat.le_add_right _ _))
theorem hF_uniq {P : Prg} {d e : Nat} {n : Str} {v u : Int} (h : hF P d n = some v) (h' : hF P e n = some u) : v = u := by
  have a := hF_le h (Nat.le_max_left d e)
  have b := hF_le h' (Nat.le_max_right d e)
  rw [a] at b; cases b; rfl
/-- what can be come to is done one level deeper -/
theorem hF_rch {P : Prg} {d : Nat} {n m : Str} {v : Int} (h : hF P (d + 1) n = some v) (r : Rch P n m) : ∃ u, hF P d m = some u := by
  induction r with
  | one hb hm =>
    obtain ⟨b, hb', h1, _⟩ := hF_inv h
    rw [hb] at hb'; cases hb'
    exact h1 _ hm
  | more _ hb hm ih =>
    obtain ⟨u, hu⟩ := ih
    cases d with
    | zero => cases hu
    | succ d =>
      obtain ⟨b, hb', h1, _⟩ := hF_inv hu
      rw [hb] at hb'; cases hb'
      obtain ⟨x, hx⟩ := h1 _ hm
      exact ⟨x, hF_succ hx⟩
theorem no_self {P : Prg} : ∀ {d : Nat} {x : Str} {v : Int}, hF P d x = some v → ¬ Rch P x x
  | 0, _, _, h, _ => by cases h
  | d + 1, x, v, h, r => by
    obtain ⟨u, hu⟩ := hF_rch h r
    exact no_self hu r
theorem no_ring {P : Prg} {d : Nat} {n : Str} {v : Int} (h : hF P d n = some v) (x : Str) (hx : x = n ∨ Rch P n x) : ¬ Rch P x x := by
  rcases hx with rfl | hx
  · exact no_self h
  · cases d with
    | zero => cases h
    | succ d =>
      obtain ⟨u, hu⟩ := hF_rch h hx
      exact no_self hu
theorem Rch.trans {P : Prg} {a b c : Str} (h : Rch P a b) (g : Rch P b c) : Rch P a c := by
  induction g with
  | one hb hm => exact .more h hb hm
  | more _ hb hm ih => exact .more ih hb hm
end Py

namespace Py
open PySem L2
theorem fin_setD (st : Store) (x : D) (k : Nat) (xs : List (Str × D)) : fin st (.d x) (st.set k (.dct xs)) = .ok (.d x) (st.set k (.dct xs)) := by
  unfold fin
  rw [if_pos]
  · simp only
    rw [List.take_of_length_le (by rw [List.length_set]; exact Nat.le_refl _)]
  · refine ⟨by rw [List.length_set]; exact Nat.le_refl _, fun j fs hj h => ?_⟩
    rw [List.getElem?_set] at h
    split at h
    · split at h <;> cases h
    · exact h
abbrev encH (K : List (Str × Int)) : List (Str × D) := K.map fun p => (p.1, D.int p.2)
theorem lookH (K : List (Str × Int)) (n : Str) : look n (encH K) = (lookA n K).map D.int := look_map D.int n K
theorem putH (K : List (Str × Int)) (n : Str) (v : Int) : putD (encH K) n (.int v) = encH (putA K n v) := putD_map D.int K n v
theorem nodup_len : ∀ (A B : List Str), A.Nodup → (∀ a ∈ A, a ∈ B) → A.length ≤ B.length
  | [], _, _, _ => by simp
  | a :: A, B, hA, hB => by
    rw [List.nodup_cons] at hA
    have hm := hB a List.mem_cons_self
    have := nodup_len A (B.erase a) hA.2 fun z hz => (List.mem_erase_of_ne (fun e => hA.1 (by rw [← e]; exact hz))).mpr (hB z (List.mem_cons_of_mem _ hz))
    rw [List.length_erase_of_mem hm] at this
    have : 0 < B.length := List.length_pos_of_mem hm
    rw [List.length_cons]; omega
/-- heights that are known are right -/
structure KOk (P : Prg) (K : List (Str × Int)) : Prop where
  nd : (K.map (·.1)).Nodup
  ht : ∀ p ∈ K, ∃ e, hF P e p.1 = some p.2
theorem hF_there {P : Prg} {d : Nat} {n : Str} {v : Int} (h : hF P d n = some v) : n ∈ P.map (·.1) := by
  cases d with
  | zero => cases h
  | succ d =>
    obtain ⟨b, hb, _⟩ := hF_inv h
    exact List.mem_map.mpr ⟨(n, b), lookA_mem hb, rfl⟩
theorem KOk.len {P : Prg} {K : List (Str × Int)} (h : KOk P K) : K.length ≤ P.length := by
  have := nodup_len (K.map (·.1)) (P.map (·.1)) h.nd fun a ha => by
    obtain ⟨p, hp, rfl⟩ := List.mem_map.mp ha
    obtain ⟨e, he⟩ := h.ht p hp
    exact hF_there he
  rwa [List.length_map, List.length_map] at this
theorem KOk.put {P : Prg} {K : List (Str × Int)} (h : KOk P K) {d : Nat} {n : Str} {v : Int} (hv : hF P d n = some v) : KOk P (putA K n v) where
  nd := putA_nodup h.nd
  ht p hp := by
    rcases putA_mem hp with z | z
    · exact h.ht p z
    · subst z; exact ⟨d, hv⟩
theorem intsOf_map : ∀ (l : List Int), intsOf (l.map D.int) = some l
  | [] => rfl
  | x :: l => by show (intsOf (l.map D.int)).map (x :: ·) = _; rw [intsOf_map l]; rfl
theorem maxI_foldl : ∀ (l : List Int) (a : Int), maxI a l = l.foldl max a
  | [], _ => rfl
  | x :: l, a => by
    show maxI (if x > a then x else a) l = _
    rw [maxI_foldl l, List.foldl_cons]
    congr 1
    split <;> omega
theorem max_if (a b : Int) : (if b > a then b else a) = max a b := by split <;> omega
theorem mx_sizes (tr : List (List Kd)) (h : tr ≠ []) : ∃ i r, sizes tr = i :: r ∧ maxI i r = mx (sizes tr) := by
  cases tr with
  | nil => exact absurd rfl h
  | cons k tr =>
    refine ⟨_, _, rfl, ?_⟩
    rw [maxI_foldl]
    show (sizes tr).foldl max (k.length : Int) = (sizes tr).foldl max (max 0 (k.length : Int))
    rw [show max 0 (k.length : Int) = k.length by omega]
noncomputable abbrev hgB (Fr : Fn) : MS := (seqM (ifM (tvM (binM (eqW false) (binM ixW (varM 6) (conM (.int 0))) (conM (.str "call"))))
 (seqM (asgM 7 (callF Fr (consA (varM 0) (consA (binM ixW (varM 6) (conM (.int 1))) (consA (varM 2) nilA)))))
 (asgM 4 (appM (app2 maxW) (consA (varM 4) (consA (binM (addW false) (binM subW (appM (app1 lenW) (consA (varM 5) nilA)) (appM (app1 lenW) (consA (binM ixW (binM ixW (varM 0) (binM ixW (varM 6) (conM (.int 1)))) (conM (.int 0))) nilA))) (varM 7)) nilA)))))
 passS)
 (ifM (tvM (binM (eqW false) (binM ixW (varM 6) (conM (.int 0))) (conM (.str "if"))))
 (seqM (asgM 7 (appM (app2 maxW) (consA (callF Fr (consA (varM 0) (consA (binM ixW (varM 6) (conM (.int 1))) (consA (varM 2) nilA)))) (consA (callF Fr (consA (varM 0) (consA (binM ixW (varM 6) (conM (.int 2))) (consA (varM 2) nilA)))) nilA))))
 (asgM 4 (appM (app2 maxW) (consA (varM 4) (consA (binM (addW false) (binM subW (binM subW (appM (app1 lenW) (consA (varM 5) nilA)) (conM (.int 1))) (appM (app1 lenW) (consA (binM ixW (binM ixW (varM 0) (binM ixW (varM 6) (conM (.int 1)))) (conM (.int 0))) nilA))) (varM 7)) nilA)))))
 passS))
/-- what is told of one block, by what is told of those that it names -/
def HGive (P : Prg) (pw : W) (Fr : Fn) (m : Str) (v : Int) : Prop := ∀ (st : Store) (k : Nat) (K : List (Str × Int)), st[k]? = some (.dct (encH K)) → asD st pw = some (.dct (encP P)) → (∀ i, pw = .c i → i ≠ k) → KOk P K →
  ∃ K', KOk P K' ∧ Fr [pw, .d (.str m), .c k] st = .ok (.d (.int v)) (st.set k (.dct (encH K')))
section
variable {P : Prg} (hP : PrgOk P) (hPl : P.length ≤ 5000) {pw : W}
include hP hPl
theorem insLen_look {m : Str} {b : Blk} (hb : lookA m P = some b) : insLen P m = ((encK b.ins).length : Int) := by
  unfold insLen; rw [hb, List.length_map]
theorem hg_row {Fr : Fn} {g : Str → Int} (row : Rw) (hg : ∀ m ∈ row.names, HGive P pw Fr m (g m)) (hthere : ∀ m ∈ row.names, ∃ b, lookA m P = some b) (ks : List Kd) (n : Str) (x3 x7 : Option W) (cur : List Int) (st : Store) (k : Nat) (K : List (Str × Int)) (h1 : st[k]? = some (.dct (encH K))) (h2 : asD st pw = some (.dct (encP P))) (h3 : ∀ i, pw = .c i → i ≠ k) (h4 : KOk P K) (hro : row.ok) :
    ∃ (K' : List (Str × Int)) (x7' : Option W), KOk P K' ∧ hgB Fr [some pw, some (.d (.str n)), some (.c k), x3, some (.d (.int (mx cur))), some (.d (.tup (encK ks))), some (.d row.enc), x7] st = .nx [some pw, some (.d (.str n)), some (.c k), x3, some (.d (.int (mx (cur ++ callV P g ks row)))), some (.d (.tup (encK ks))), some (.d row.enc), x7'] (st.set k (.dct (encH K'))) := by
  have hx : pw.isExc = false := noExc_of h2
  have hlk : ((encK ks).length : Int) = (ks.length : Int) := by rw [List.length_map]
  have hset : st.set k (.dct (encH K)) = st := set_self h1
  cases row with
  | plain r =>
    refine ⟨K, x7, h4, ?_⟩
    rw [hset]
    simp only [callV, List.append_nil]
    cases r with
    | num v => simp only [szs, fnM, rawM, seqM, ifM, tvM, truM, binM, unM, appM, consA, nilA, varM, conM, retM, retN, asgM, expM, raiseM, passS, callF, app1, app2, noExc, isExc_d, isExc_c, bindS_ok, bindS_err, bindS_stuck, Res.bind_ok, Res.bind_err, Res.bind_stuck, onBl_bl, andT, orT, notT, andV, orV, notV, tupM, lstM, toDs, toD, asD_d, asD_new, frzW_d, newT, newL, slM, slW, someO, noneO, ixW, addW, subW, mulW, modW, cmpW, negW, lenW, intW, tabW, isNonB, isNonW, isNon_d, List.map_cons, List.map_nil, List.length_cons, List.length_nil, List.replicate, List.append_nil, List.nil_append, List.cons_append, List.getElem?_cons_zero, List.getElem?_cons_succ, List.set_cons_zero, List.set_cons_succ, Nat.reduceAdd, Nat.reduceSub, if_true, if_false, ite_true, ite_false, Bool.not_true, Bool.not_false, Bool.and_true, Bool.and_false, Bool.false_eq_true, reduceIte, fin_same, finE_same, fin_new, atI_0, atI_1, atI_2, eqW_ofs, look_ofs, look_nil, dspC, newDc, inW, Option.isSome_some, Option.isSome_none, itM, forM, items_dl, items_dt, methL, methD, arg0, arg1, arg2, appendW, popW, listW, get_new, set_new, isLst_new, pow109, String.reduceBEq, String.reduceEq, Bool.false_or, Bool.true_or, Bool.or_false, Bool.or_true, Rw.enc, Row.enc]
    | text v => simp only [szs, fnM, rawM, seqM, ifM, tvM, truM, binM, unM, appM, consA, nilA, varM, conM, retM, retN, asgM, expM, raiseM, passS, callF, app1, app2, noExc, isExc_d, isExc_c, bindS_ok, bindS_err, bindS_stuck, Res.bind_ok, Res.bind_err, Res.bind_stuck, onBl_bl, andT, orT, notT, andV, orV, notV, tupM, lstM, toDs, toD, asD_d, asD_new, frzW_d, newT, newL, slM, slW, someO, noneO, ixW, addW, subW, mulW, modW, cmpW, negW, lenW, intW, tabW, isNonB, isNonW, isNon_d, List.map_cons, List.map_nil, List.length_cons, List.length_nil, List.replicate, List.append_nil, List.nil_append, List.cons_append, List.getElem?_cons_zero, List.getElem?_cons_succ, List.set_cons_zero, List.set_cons_succ, Nat.reduceAdd, Nat.reduceSub, if_true, if_false, ite_true, ite_false, Bool.not_true, Bool.not_false, Bool.and_true, Bool.and_false, Bool.false_eq_true, reduceIte, fin_same, finE_same, fin_new, atI_0, atI_1, atI_2, eqW_ofs, look_ofs, look_nil, dspC, newDc, inW, Option.isSome_some, Option.isSome_none, itM, forM, items_dl, items_dt, methL, methD, arg0, arg1, arg2, appendW, popW, listW, get_new, set_new, isLst_new, pow109, String.reduceBEq, String.reduceEq, Bool.false_or, Bool.true_or, Bool.or_false, Bool.or_true, Rw.enc, Row.enc]
    | copy v => simp only [szs, fnM, rawM, seqM, ifM, tvM, truM, binM, unM, appM, consA, nilA, varM, conM, retM, retN, asgM, expM, raiseM, passS, callF, app1, app2, noExc, isExc_d, isExc_c, bindS_ok, bindS_err, bindS_stuck, Res.bind_ok, Res.bind_err, Res.bind_stuck, onBl_bl, andT, orT, notT, andV, orV, notV, tupM, lstM, toDs, toD, asD_d, asD_new, frzW_d, newT, newL, slM, slW, someO, noneO, ixW, addW, subW, mulW, modW, cmpW, negW, lenW, intW, tabW, isNonB, isNonW, isNon_d, List.map_cons, List.map_nil, List.length_cons, List.length_nil, List.replicate, List.append_nil, List.nil_append, List.cons_append, List.getElem?_cons_zero, List.getElem?_cons_succ, List.set_cons_zero, List.set_cons_succ, Nat.reduceAdd, Nat.reduceSub, if_true, if_false, ite_true, ite_false, Bool.not_true, Bool.not_false, Bool.and_true, Bool.and_false, Bool.false_eq_true, reduceIte, fin_same, finE_same, fin_new, atI_0, atI_1, atI_2, eqW_ofs, look_ofs, look_nil, dspC, newDc, inW, Option.isSome_some, Option.isSome_none, itM, forM, items_dl, items_dt, methL, methD, arg0, arg1, arg2, appendW, popW, listW, get_new, set_new, isLst_new, pow109, String.reduceBEq, String.reduceEq, Bool.false_or, Bool.true_or, Bool.or_false, Bool.or_true, Rw.enc, Row.enc]
    | op o => cases o <;> simp only [szs, fnM, rawM, seqM, ifM, tvM, truM, binM, unM, appM, consA, nilA, varM, conM, retM, retN, asgM, expM, raiseM, passS, callF, app1, app2, noExc, isExc_d, isExc_c, bindS_ok, bindS_err, bindS_stuck, Res.bind_ok, Res.bind_err, Res.bind_stuck, onBl_bl, andT, orT, notT, andV, orV, notV, tupM, lstM, toDs, toD, asD_d, asD_new, frzW_d, newT, newL, slM, slW, someO, noneO, ixW, addW, subW, mulW, modW, cmpW, negW, lenW, intW, tabW, isNonB, isNonW, isNon_d, List.map_cons, List.map_nil, List.length_cons, List.length_nil, List.replicate, List.append_nil, List.nil_append, List.cons_append, List.getElem?_cons_zero, List.getElem?_cons_succ, List.set_cons_zero, List.set_cons_succ, Nat.reduceAdd, Nat.reduceSub, if_true, if_false, ite_true, ite_false, Bool.not_true, Bool.not_false, Bool.and_true, Bool.and_false, Bool.false_eq_true, reduceIte, fin_same, finE_same, fin_new, atI_0, atI_1, atI_2, eqW_ofs, look_ofs, look_nil, dspC, newDc, inW, Option.isSome_some, Option.isSome_none, itM, forM, items_dl, items_dt, methL, methD, arg0, arg1, arg2, appendW, popW, listW, get_new, set_new, isLst_new, pow109, String.reduceBEq, String.reduceEq, Bool.false_or, Bool.true_or, Bool.or_false, Bool.or_true, Rw.enc, Row.enc, Op.s]
  | call m =>
    obtain ⟨K', h4', e⟩ := hg m (by simp [Rw.names]) st k K h1 h2 h3 h4
    obtain ⟨b, hb⟩ := hthere m (by simp [Rw.names])
    have hil := insLen_look hP hPl hb
    have h2' : asD (st.set k (.dct (encH K'))) pw = some (.dct (encP P)) := asD_set_ne h2 h3
    have hlook : look m (encP P) = some (.tup [.tup (encK b.ins), .tup (encK b.outs), .lst (encR b.rows)]) := by rw [lookP, hb]; rfl
    refine ⟨K', some (.d (.int (g m))), h4', ?_⟩
    have hmx := mx_app cur ((ks.length : Int) - insLen P m + g m)
    rw [← max_if, hil] at hmx
    simp only [callV]
    refine (seq_nx (e := [some pw, some (.d (.str n)), some (.c k), x3, some (.d (.int (mx (cur ++ [(ks.length : Int) - insLen P m + g m])))), some (.d (.tup (encK ks))), some (.d (Rw.call m).enc), some (.d (.int (g m)))]) (s := st.set k (.dct (encH K'))) ((if_t (s := st) (by simp only [szs, fnM, rawM, seqM, ifM, tvM, truM, binM, unM, appM, consA, nilA, varM, conM, retM, retN, asgM, expM, raiseM, passS, callF, app1, app2, noExc, isExc_d, isExc_c, bindS_ok, bindS_err, bindS_stuck, Res.bind_ok, Res.bind_err, Res.bind_stuck, onBl_bl, andT, orT, notT, andV, orV, notV, tupM, lstM, toDs, toD, asD_d, asD_new, frzW_d, newT, newL, slM, slW, someO, noneO, ixW, addW, subW, mulW, modW, cmpW, negW, lenW, intW, tabW, isNonB, isNonW, isNon_d, List.map_cons, List.map_nil, List.length_cons, List.length_nil, List.replicate, List.append_nil, List.nil_append, List.cons_append, List.getElem?_cons_zero, List.getElem?_cons_succ, List.set_cons_zero, List.set_cons_succ, Nat.reduceAdd, Nat.reduceSub, if_true, if_false, ite_true, ite_false, Bool.not_true, Bool.not_false, Bool.and_true, Bool.and_false, Bool.false_eq_true, reduceIte, fin_same, finE_same, fin_new, atI_0, atI_1, atI_2, eqW_ofs, look_ofs, look_nil, dspC, newDc, inW, Option.isSome_some, Option.isSome_none, itM, forM, items_dl, items_dt, methL, methD, arg0, arg1, arg2, appendW, popW, listW, get_new, set_new, isLst_new, pow109, String.reduceBEq, String.reduceEq, Bool.false_or, Bool.true_or, Bool.or_false, Bool.or_true, Rw.enc])).trans ?_)).trans ?_
    · refine (seq_nx (e := [some pw, some (.d (.str n)), some (.c k), x3, some (.d (.int (mx cur))), some (.d (.tup (encK ks))), some (.d (Rw.call m).enc), some (.d (.int (g m)))]) (s := st.set k (.dct (encH K'))) (by simp only [szs, fnM, rawM, seqM, ifM, tvM, truM, binM, unM, appM, consA, nilA, varM, conM, retM, retN, asgM, expM, raiseM, passS, callF, app1, app2, noExc, isExc_d, isExc_c, bindS_ok, bindS_err, bindS_stuck, Res.bind_ok, Res.bind_err, Res.bind_stuck, onBl_bl, andT, orT, notT, andV, orV, notV, tupM, lstM, toDs, toD, asD_d, asD_new, frzW_d, newT, newL, slM, slW, someO, noneO, ixW, addW, subW, mulW, modW, cmpW, negW, lenW, intW, tabW, isNonB, isNonW, isNon_d, List.map_cons, List.map_nil, List.length_cons, List.length_nil, List.replicate, List.append_nil, List.nil_append, List.cons_append, List.getElem?_cons_zero, List.getElem?_cons_succ, List.set_cons_zero, List.set_cons_succ, Nat.reduceAdd, Nat.reduceSub, if_true, if_false, ite_true, ite_false, Bool.not_true, Bool.not_false, Bool.and_true, Bool.and_false, Bool.false_eq_true, reduceIte, fin_same, finE_same, fin_new, atI_0, atI_1, atI_2, eqW_ofs, look_ofs, look_nil, dspC, newDc, inW, Option.isSome_some, Option.isSome_none, itM, forM, items_dl, items_dt, methL, methD, arg0, arg1, arg2, appendW, popW, listW, get_new, set_new, isLst_new, pow109, String.reduceBEq, String.reduceEq, Bool.false_or, Bool.true_or, Bool.or_false, Bool.or_true, Rw.enc, hx, e])).trans ?_
      rw [hil, hmx]
      generalize hL : ((encK b.ins).length : Int) = L
      simp only [szs, fnM, rawM, seqM, ifM, tvM, truM, binM, unM, appM, consA, nilA, varM, conM, retM, retN, asgM, expM, raiseM, passS, callF, app1, app2, noExc, isExc_d, isExc_c, bindS_ok, bindS_err, bindS_stuck, Res.bind_ok, Res.bind_err, Res.bind_stuck, onBl_bl, andT, orT, notT, andV, orV, notV, tupM, lstM, toDs, toD, asD_d, asD_new, frzW_d, newT, newL, slM, slW, someO, noneO, ixW, addW, subW, mulW, modW, cmpW, negW, lenW, intW, tabW, isNonB, isNonW, isNon_d, List.map_cons, List.map_nil, List.length_cons, List.length_nil, List.replicate, List.append_nil, List.nil_append, List.cons_append, List.getElem?_cons_zero, List.getElem?_cons_succ, List.set_cons_zero, List.set_cons_succ, Nat.reduceAdd, Nat.reduceSub, if_true, if_false, ite_true, ite_false, Bool.not_true, Bool.not_false, Bool.and_true, Bool.and_false, Bool.false_eq_true, reduceIte, fin_same, finE_same, fin_new, atI_0, atI_1, atI_2, eqW_ofs, look_ofs, look_nil, dspC, newDc, inW, Option.isSome_some, Option.isSome_none, itM, forM, items_dl, items_dt, methL, methD, arg0, arg1, arg2, appendW, popW, listW, get_new, set_new, isLst_new, pow109, String.reduceBEq, String.reduceEq, Bool.false_or, Bool.true_or, Bool.or_false, Bool.or_true, Rw.enc, h2', hlook, hL, hlk, maxW]
    · simp only [szs, fnM, rawM, seqM, ifM, tvM, truM, binM, unM, appM, consA, nilA, varM, conM, retM, retN, asgM, expM, raiseM, passS, callF, app1, app2, noExc, isExc_d, isExc_c, bindS_ok, bindS_err, bindS_stuck, Res.bind_ok, Res.bind_err, Res.bind_stuck, onBl_bl, andT, orT, notT, andV, orV, notV, tupM, lstM, toDs, toD, asD_d, asD_new, frzW_d, newT, newL, slM, slW, someO, noneO, ixW, addW, subW, mulW, modW, cmpW, negW, lenW, intW, tabW, isNonB, isNonW, isNon_d, List.map_cons, List.map_nil, List.length_cons, List.length_nil, List.replicate, List.append_nil, List.nil_append, List.cons_append, List.getElem?_cons_zero, List.getElem?_cons_succ, List.set_cons_zero, List.set_cons_succ, Nat.reduceAdd, Nat.reduceSub, if_true, if_false, ite_true, ite_false, Bool.not_true, Bool.not_false, Bool.and_true, Bool.and_false, Bool.false_eq_true, reduceIte, fin_same, finE_same, fin_new, atI_0, atI_1, atI_2, eqW_ofs, look_ofs, look_nil, dspC, newDc, inW, Option.isSome_some, Option.isSome_none, itM, forM, items_dl, items_dt, methL, methD, arg0, arg1, arg2, appendW, popW, listW, get_new, set_new, isLst_new, pow109, String.reduceBEq, String.reduceEq, Bool.false_or, Bool.true_or, Bool.or_false, Bool.or_true, Rw.enc]
  | iff a c =>
    obtain ⟨K1, g1, e1⟩ := hg a (by simp [Rw.names]) st k K h1 h2 h3 h4
    have hlt : k < st.length := (List.getElem?_eq_some_iff.mp h1).1
    have h2' : asD (st.set k (.dct (encH K1))) pw = some (.dct (encP P)) := asD_set_ne h2 h3
    obtain ⟨K2, g2, e2⟩ := hg c (by simp [Rw.names]) (st.set k (.dct (encH K1))) k K1 (by rw [List.getElem?_set_self hlt]) h2' h3 g1
    rw [set_set'] at e2
    obtain ⟨b, hb⟩ := hthere a (by simp [Rw.names])
    have hil := insLen_look hP hPl hb
    have h2'' : asD (st.set k (.dct (encH K2))) pw = some (.dct (encP P)) := asD_set_ne h2 h3
    have hlook : look a (encP P) = some (.tup [.tup (encK b.ins), .tup (encK b.outs), .lst (encR b.rows)]) := by rw [lookP, hb]; rfl
    refine ⟨K2, some (.d (.int (max (g a) (g c)))), g2, ?_⟩
    have hmx := mx_app cur ((ks.length : Int) - 1 - insLen P a + max (g a) (g c))
    rw [← max_if (mx cur), hil] at hmx
    simp only [callV]
    refine (seq_nx (e := [some pw, some (.d (.str n)), some (.c k), x3, some (.d (.int (mx cur))), some (.d (.tup (encK ks))), some (.d (Rw.iff a c).enc), x7]) (s := st) (by simp only [szs, fnM, rawM, seqM, ifM, tvM, truM, binM, unM, appM, consA, nilA, varM, conM, retM, retN, asgM, expM, raiseM, passS, callF, app1, app2, noExc, isExc_d, isExc_c, bindS_ok, bindS_err, bindS_stuck, Res.bind_ok, Res.bind_err, Res.bind_stuck, onBl_bl, andT, orT, notT, andV, orV, notV, tupM, lstM, toDs, toD, asD_d, asD_new, frzW_d, newT, newL, slM, slW, someO, noneO, ixW, addW, subW, mulW, modW, cmpW, negW, lenW, intW, tabW, isNonB, isNonW, isNon_d, List.map_cons, List.map_nil, List.length_cons, List.length_nil, List.replicate, List.append_nil, List.nil_append, List.cons_append, List.getElem?_cons_zero, List.getElem?_cons_succ, List.set_cons_zero, List.set_cons_succ, Nat.reduceAdd, Nat.reduceSub, if_true, if_false, ite_true, ite_false, Bool.not_true, Bool.not_false, Bool.and_true, Bool.and_false, Bool.false_eq_true, reduceIte, fin_same, finE_same, fin_new, atI_0, atI_1, atI_2, eqW_ofs, look_ofs, look_nil, dspC, newDc, inW, Option.isSome_some, Option.isSome_none, itM, forM, items_dl, items_dt, methL, methD, arg0, arg1, arg2, appendW, popW, listW, get_new, set_new, isLst_new, pow109, String.reduceBEq, String.reduceEq, Bool.false_or, Bool.true_or, Bool.or_false, Bool.or_true, Rw.enc])).trans ?_
    refine (if_t (s := st) (by simp only [szs, fnM, rawM, seqM, ifM, tvM, truM, binM, unM, appM, consA, nilA, varM, conM, retM, retN, asgM, expM, raiseM, passS, callF, app1, app2, noExc, isExc_d, isExc_c, bindS_ok, bindS_err, bindS_stuck, Res.bind_ok, Res.bind_err, Res.bind_stuck, onBl_bl, andT, orT, notT, andV, orV, notV, tupM, lstM, toDs, toD, asD_d, asD_new, frzW_d, newT, newL, slM, slW, someO, noneO, ixW, addW, subW, mulW, modW, cmpW, negW, lenW, intW, tabW, isNonB, isNonW, isNon_d, List.map_cons, List.map_nil, List.length_cons, List.length_nil, List.replicate, List.append_nil, List.nil_append, List.cons_append, List.getElem?_cons_zero, List.getElem?_cons_succ, List.set_cons_zero, List.set_cons_succ, Nat.reduceAdd, Nat.reduceSub, if_true, if_false, ite_true, ite_false, Bool.not_true, Bool.not_false, Bool.and_true, Bool.and_false, Bool.false_eq_true, reduceIte, fin_same, finE_same, fin_new, atI_0, atI_1, atI_2, eqW_ofs, look_ofs, look_nil, dspC, newDc, inW, Option.isSome_some, Option.isSome_none, itM, forM, items_dl, items_dt, methL, methD, arg0, arg1, arg2, appendW, popW, listW, get_new, set_new, isLst_new, pow109, String.reduceBEq, String.reduceEq, Bool.false_or, Bool.true_or, Bool.or_false, Bool.or_true, Rw.enc])).trans ?_
    refine (seq_nx (e := [some pw, some (.d (.str n)), some (.c k), x3, some (.d (.int (mx cur))), some (.d (.tup (encK ks))), some (.d (Rw.iff a c).enc), some (.d (.int (max (g a) (g c))))]) (s := st.set k (.dct (encH K2))) (by
      rw [← max_if (g a)]
      simp only [szs, fnM, rawM, seqM, ifM, tvM, truM, binM, unM, appM, consA, nilA, varM, conM, retM, retN, asgM, expM, raiseM, passS, callF, app1, app2, noExc, isExc_d, isExc_c, bindS_ok, bindS_err, bindS_stuck, Res.bind_ok, Res.bind_err, Res.bind_stuck, onBl_bl, andT, orT, notT, andV, orV, notV, tupM, lstM, toDs, toD, asD_d, asD_new, frzW_d, newT, newL, slM, slW, someO, noneO, ixW, addW, subW, mulW, modW, cmpW, negW, lenW, intW, tabW, isNonB, isNonW, isNon_d, List.map_cons, List.map_nil, List.length_cons, List.length_nil, List.replicate, List.append_nil, List.nil_append, List.cons_append, List.getElem?_cons_zero, List.getElem?_cons_succ, List.set_cons_zero, List.set_cons_succ, Nat.reduceAdd, Nat.reduceSub, if_true, if_false, ite_true, ite_false, Bool.not_true, Bool.not_false, Bool.and_true, Bool.and_false, Bool.false_eq_true, reduceIte, fin_same, finE_same, fin_new, atI_0, atI_1, atI_2, eqW_ofs, look_ofs, look_nil, dspC, newDc, inW, Option.isSome_some, Option.isSome_none, itM, forM, items_dl, items_dt, methL, methD, arg0, arg1, arg2, appendW, popW, listW, get_new, set_new, isLst_new, pow109, String.reduceBEq, String.reduceEq, Bool.false_or, Bool.true_or, Bool.or_false, Bool.or_true, Rw.enc, hx, e1, e2, maxW])).trans ?_
    rw [hil, hmx]
    generalize hL : ((encK b.ins).length : Int) = L
    simp only [szs, fnM, rawM, seqM, ifM, tvM, truM, binM, unM, appM, consA, nilA, varM, conM, retM, retN, asgM, expM, raiseM, passS, callF, app1, app2, noExc, isExc_d, isExc_c, bindS_ok, bindS_err, bindS_stuck, Res.bind_ok, Res.bind_err, Res.bind_stuck, onBl_bl, andT, orT, notT, andV, orV, notV, tupM, lstM, toDs, toD, asD_d, asD_new, frzW_d, newT, newL, slM, slW, someO, noneO, ixW, addW, subW, mulW, modW, cmpW, negW, lenW, intW, tabW, isNonB, isNonW, isNon_d, List.map_cons, List.map_nil, List.length_cons, List.length_nil, List.replicate, List.append_nil, List.nil_append, List.cons_append, List.getElem?_cons_zero, List.getElem?_cons_succ, List.set_cons_zero, List.set_cons_succ, Nat.reduceAdd, Nat.reduceSub, if_true, if_false, ite_true, ite_false, Bool.not_true, Bool.not_false, Bool.and_true, Bool.and_false, Bool.false_eq_true, reduceIte, fin_same, finE_same, fin_new, atI_0, atI_1, atI_2, eqW_ofs, look_ofs, look_nil, dspC, newDc, inW, Option.isSome_some, Option.isSome_none, itM, forM, items_dl, items_dt, methL, methD, arg0, arg1, arg2, appendW, popW, listW, get_new, set_new, isLst_new, pow109, String.reduceBEq, String.reduceEq, Bool.false_or, Bool.true_or, Bool.or_false, Bool.or_true, Rw.enc, h2'', hlook, hL, hlk, maxW]
end
end Py

namespace Py
open PySem L2
theorem fin_app (st : Store) (x : D) (G : Store) : fin st (.d x) (st ++ G) = .ok (.d x) st := by
  unfold fin
  rw [if_pos]
  · simp
  · exact ⟨by simp, fun k fs hk h => by rwa [List.getElem?_append_left hk] at h⟩
theorem asD_lt {st : Store} {i : Nat} {d : D} (h : asD st (.c i) = some d) : i < st.length := by
  unfold asD at h
  simp only at h
  cases q : st[i]? with
  | none => rw [q] at h; cases h
  | some c => exact (List.getElem?_eq_some_iff.mp q).1
section
variable {P : Prg} (hP : PrgOk P) (hPl : P.length ≤ 5000) {pw : W} {Rz : Str → Prop} (hgood : ∀ m, Rz m → ∃ b, lookA m P = some b ∧ (wayK (telP P) b).2 = "") (hreach : ∀ n b m, Rz n → lookA n P = some b → m ∈ named b → Rz m)
include hP hPl hgood hreach
theorem highest_step {Fr : Fn} {n : Str} {b : Blk} {g : Str → Int} {d : Nat} (hb : lookA n P = some b) (hn : Rz n) (hd : hF P d n = some (valB P g b)) (hg : ∀ m ∈ named b, HGive P pw Fr m (g m)) : HGive P pw (fnM 3 8 (b_p_highest Fr)) n (valB P g b) := by
  intro st k K h1 h2 h3 h4
  have hx : pw.isExc = false := noExc_of h2
  have hbo : BlkOk b := hP.bl _ (lookA_mem hb)
  have hb2 := hbo.sr
  have hbr := hbo.ro
  have hset : st.set k (.dct (encH K)) = st := set_self h1
  have aK : asD st (.c k) = some (.dct (encH K)) := by unfold asD; simp only; rw [h1]
  have hlk := lookH K n
  obtain ⟨b', hb', hword⟩ := hgood n hn
  rw [hb] at hb'; cases hb'
  have hthere : ∀ m ∈ named b, ∃ b, lookA m P = some b := fun m hm => by
    obtain ⟨x, hx', _⟩ := hgood m (hreach n b m hn hb hm)
    exact ⟨x, hx'⟩
  have hPlook : look n (encP P) = some (.tup [.tup (encK b.ins), .tup (encK b.outs), .lst (encR b.rows)]) := by rw [lookP, hb]; rfl
  cases q : lookA n K with
  | some u =>
    have hu : u = valB P g b := by
      obtain ⟨e, he⟩ := h4.ht _ (lookA_mem q)
      exact hF_uniq he hd
    subst hu
    replace hlk : look n (encH K) = some (.int (valB P g b)) := by rw [hlk, q]; rfl
    refine ⟨K, h4, ?_⟩
    rw [hset]
    refine (fnM_ret (st' := st) rfl ?_).trans (fin_same _ _)
    unfold b_p_highest
    refine seq_ret ((if_t (s := st) (by simp only [szs, fnM, rawM, seqM, ifM, tvM, truM, binM, unM, appM, consA, nilA, varM, conM, retM, retN, asgM, expM, raiseM, passS, callF, app1, app2, noExc, isExc_d, isExc_c, bindS_ok, bindS_err, bindS_stuck, Res.bind_ok, Res.bind_err, Res.bind_stuck, onBl_bl, andT, orT, notT, andV, orV, notV, tupM, lstM, toDs, toD, asD_d, asD_new, frzW_d, newT, newL, slM, slW, someO, noneO, ixW, addW, subW, mulW, modW, cmpW, negW, lenW, intW, tabW, isNonB, isNonW, isNon_d, List.map_cons, List.map_nil, List.length_cons, List.length_nil, List.replicate, List.append_nil, List.nil_append, List.cons_append, List.getElem?_cons_zero, List.getElem?_cons_succ, List.set_cons_zero, List.set_cons_succ, Nat.reduceAdd, Nat.reduceSub, if_true, if_false, ite_true, ite_false, Bool.not_true, Bool.not_false, Bool.and_true, Bool.and_false, Bool.false_eq_true, reduceIte, fin_same, finE_same, fin_new, atI_0, atI_1, atI_2, eqW_ofs, look_ofs, look_nil, dspC, newDc, inW, Option.isSome_some, Option.isSome_none, itM, forM, items_dl, items_dt, methL, methD, arg0, arg1, arg2, appendW, popW, listW, get_new, set_new, isLst_new, pow109, String.reduceBEq, String.reduceEq, Bool.false_or, Bool.true_or, Bool.or_false, Bool.or_true, inW, aK, hlk, Option.isSome])).trans ?_)
    simp only [szs, fnM, rawM, seqM, ifM, tvM, truM, binM, unM, appM, consA, nilA, varM, conM, retM, retN, asgM, expM, raiseM, passS, callF, app1, app2, noExc, isExc_d, isExc_c, bindS_ok, bindS_err, bindS_stuck, Res.bind_ok, Res.bind_err, Res.bind_stuck, onBl_bl, andT, orT, notT, andV, orV, notV, tupM, lstM, toDs, toD, asD_d, asD_new, frzW_d, newT, newL, slM, slW, someO, noneO, ixW, addW, subW, mulW, modW, cmpW, negW, lenW, intW, tabW, isNonB, isNonW, isNon_d, List.map_cons, List.map_nil, List.length_cons, List.length_nil, List.replicate, List.append_nil, List.nil_append, List.cons_append, List.getElem?_cons_zero, List.getElem?_cons_succ, List.set_cons_zero, List.set_cons_succ, Nat.reduceAdd, Nat.reduceSub, if_true, if_false, ite_true, ite_false, Bool.not_true, Bool.not_false, Bool.and_true, Bool.and_false, Bool.false_eq_true, reduceIte, fin_same, finE_same, fin_new, atI_0, atI_1, atI_2, eqW_ofs, look_ofs, look_nil, dspC, newDc, inW, Option.isSome_some, Option.isSome_none, itM, forM, items_dl, items_dt, methL, methD, arg0, arg1, arg2, appendW, popW, listW, get_new, set_new, isLst_new, pow109, String.reduceBEq, String.reduceEq, Bool.false_or, Bool.true_or, Bool.or_false, Bool.or_true, aK, hlk]
  | none =>
    replace hlk : look n (encH K) = none := by rw [hlk, q]; rfl
    have etr := trail_of_ok pw st P n b h2 hP hb
    rw [if_pos hword] at etr
    have htl := trailK_len (telP P) b.rows b.ins
    have htne := trailK_ne (telP P) b.ins b.rows
    let tr : List (List Kd) := (wayK (telP P) b).1
    have htl' : tr.length ≤ b.rows.length + 1 := way_len _ _
    have htne' : tr ≠ [] := htne
    have hztr : (encKK tr).length ≤ sizeLine := small (by rw [List.length_map]; omega)
    have elc : lcLoop 5 yesT (appM (app1 lenW) (consA (varM 5) nilA)) (encKK tr) [] [some pw, some (.d (.str n)), some (.c k), some (.d (.lst (encKK tr))), none, none, none, none] st = .ok ((sizes tr).map D.int) st := by
      rw [lcLoop_map (fun x => match x with | .tup ys => .int ys.length | _ => .non) (encKK tr) (fun x hx => by
        obtain ⟨ks, _, rfl⟩ := List.mem_map.mp hx
        simp only [szs, fnM, rawM, seqM, ifM, tvM, truM, binM, unM, appM, consA, nilA, varM, conM, retM, retN, asgM, expM, raiseM, passS, callF, app1, app2, noExc, isExc_d, isExc_c, bindS_ok, bindS_err, bindS_stuck, Res.bind_ok, Res.bind_err, Res.bind_stuck, onBl_bl, andT, orT, notT, andV, orV, notV, tupM, lstM, toDs, toD, asD_d, asD_new, frzW_d, newT, newL, slM, slW, someO, noneO, ixW, addW, subW, mulW, modW, cmpW, negW, lenW, intW, tabW, isNonB, isNonW, isNon_d, List.map_cons, List.map_nil, List.length_cons, List.length_nil, List.replicate, List.append_nil, List.nil_append, List.cons_append, List.getElem?_cons_zero, List.getElem?_cons_succ, List.set_cons_zero, List.set_cons_succ, Nat.reduceAdd, Nat.reduceSub, if_true, if_false, ite_true, ite_false, Bool.not_true, Bool.not_false, Bool.and_true, Bool.and_false, Bool.false_eq_true, reduceIte, fin_same, finE_same, fin_new, atI_0, atI_1, atI_2, eqW_ofs, look_ofs, look_nil, dspC, newDc, inW, Option.isSome_some, Option.isSome_none, itM, forM, items_dl, items_dt, methL, methD, arg0, arg1, arg2, appendW, popW, listW, get_new, set_new, isLst_new, pow109, String.reduceBEq, String.reduceEq, Bool.false_or, Bool.true_or, Bool.or_false, Bool.or_true]) hztr]
      unfold sizes
      rw [List.map_map, List.map_map]
      congr 1
      refine List.map_congr_left fun ks _ => ?_
      show D.int ((encK ks).length : Int) = D.int (ks.length : Int)
      rw [List.length_map]
    have hzs : ((sizes tr).map D.int).length ≤ sizeLine := small (by unfold sizes; rw [List.length_map, List.length_map]; omega)
    obtain ⟨i0, r0, hs0, hmx⟩ := mx_sizes tr htne'
    let E (x3 x4 x5 x6 x7 : Option W) : Env := [some pw, some (.d (.str n)), some (.c k), x3, x4, x5, x6, x7]
    have hmax : maxLW (.d (.lst ((sizes tr).map D.int))) st = .ok (.d (.int (mx (sizes tr)))) st := by
      unfold maxLW
      rw [asD_d]
      simp only
      rw [intsOf_map, hs0]
      simp only
      rw [hmx, ← hs0]
    -- the loop over the rows
    let prs (tr2 : List (List Kd)) (rs2 : List Rw) : List D := ((encKK tr2).zip (encR rs2)).map fun p => .tup [p.1, p.2]
    obtain ⟨env', st', eL, tr2, rs2, cur, K', x5, x6, x7, i1, i2, i3, i4, i5, i6⟩ := loop_inv (t := .pair 5 6) (body := hgB Fr)
      (fun ys env s => ∃ (tr2 : List (List Kd)) (rs2 : List Rw) (cur : List Int) (K' : List (Str × Int)) (x5 x6 x7 : Option W), ys = prs tr2 rs2 ∧ (∀ r ∈ rs2, r ∈ b.rows) ∧ cur ++ callsV P g tr2 rs2 = sizes tr ++ callsV P g tr b.rows ∧ KOk P K' ∧ env = E (some (.d (.lst (encKK tr)))) (some (.d (.int (mx cur)))) x5 x6 x7 ∧ s = st.set k (.dct (encH K')))
      (prs tr b.rows) (E (some (.d (.lst (encKK tr)))) (some (.d (.int (mx (sizes tr))))) none none none) st
      (fun y ys env s ⟨tr2, rs2, cur, K', x5, x6, x7, i1, i2, i3, i4, i5, i6⟩ => by
        cases tr2 with
        | nil => cases i1
        | cons ks tr2 =>
          cases rs2 with
          | nil => cases i1
          | cons row rs2 =>
            obtain ⟨rfl, rfl⟩ := List.cons.inj i1
            subst i5 i6
            have hlt : k < st.length := (List.getElem?_eq_some_iff.mp h1).1
            have hrm := i2 row List.mem_cons_self
            have hrn : ∀ m ∈ row.names, m ∈ named b := fun m hm => List.mem_flatMap.mpr ⟨row, hrm, hm⟩
            obtain ⟨K2, x7', j1, j2⟩ := hg_row hP hPl row (fun m hm => hg m (hrn m hm)) (fun m hm => hthere m (hrn m hm)) ks n (some (.d (.lst (encKK tr)))) x7 cur (st.set k (.dct (encH K'))) k K' (by rw [List.getElem?_set_self hlt]) (asD_set_ne h2 h3) h3 i4 (hbr row hrm)
            rw [set_set'] at j2
            refine ⟨_, _, _, rfl, j2, tr2, rs2, cur ++ callV P g ks row, K2, _, _, x7', rfl, fun r hr => i2 r (List.mem_cons_of_mem _ hr), ?_, j1, rfl, rfl⟩
            rw [← i3, List.append_assoc]; rfl)
      ⟨tr, b.rows, sizes tr, K, none, none, none, rfl, fun r h => h, rfl, h4, rfl, hset.symm⟩
    have hcur : mx cur = valB P g b := by
      unfold valB
      have hnil : callsV P g tr2 rs2 = [] := by
        cases tr2 with
        | nil => rfl
        | cons _ _ =>
          cases rs2 with
          | nil => rfl
          | cons _ _ => cases i1
      rw [hnil, List.append_nil] at i3
      rw [i3]
    subst i5 i6
    have hlt : k < st.length := (List.getElem?_eq_some_iff.mp h1).1
    have hlenK := i4.len
    have hzK : (encH K').length < sizeLine := lt_line (by rw [List.length_map]; omega)
    have hput := putH K' n (valB P g b)
    refine ⟨putA K' n (valB P g b), i4.put hd, (fnM_ret (st' := st.set k (.dct (encH (putA K' n (valB P g b))))) rfl ?_).trans (fin_setD _ _ _ _)⟩
    unfold b_p_highest
    refine (seq_nx (e := E none none none none none) (s := st) ((if_f (s := st) (by simp only [szs, fnM, rawM, seqM, ifM, tvM, truM, binM, unM, appM, consA, nilA, varM, conM, retM, retN, asgM, expM, raiseM, passS, callF, app1, app2, noExc, isExc_d, isExc_c, bindS_ok, bindS_err, bindS_stuck, Res.bind_ok, Res.bind_err, Res.bind_stuck, onBl_bl, andT, orT, notT, andV, orV, notV, tupM, lstM, toDs, toD, asD_d, asD_new, frzW_d, newT, newL, slM, slW, someO, noneO, ixW, addW, subW, mulW, modW, cmpW, negW, lenW, intW, tabW, isNonB, isNonW, isNon_d, List.map_cons, List.map_nil, List.length_cons, List.length_nil, List.replicate, List.append_nil, List.nil_append, List.cons_append, List.getElem?_cons_zero, List.getElem?_cons_succ, List.set_cons_zero, List.set_cons_succ, Nat.reduceAdd, Nat.reduceSub, if_true, if_false, ite_true, ite_false, Bool.not_true, Bool.not_false, Bool.and_true, Bool.and_false, Bool.false_eq_true, reduceIte, fin_same, finE_same, fin_new, atI_0, atI_1, atI_2, eqW_ofs, look_ofs, look_nil, dspC, newDc, inW, Option.isSome_some, Option.isSome_none, itM, forM, items_dl, items_dt, methL, methD, arg0, arg1, arg2, appendW, popW, listW, get_new, set_new, isLst_new, pow109, String.reduceBEq, String.reduceEq, Bool.false_or, Bool.true_or, Bool.or_false, Bool.or_true, E, inW, aK, hlk, Option.isSome])).trans rfl)).trans ?_
    refine (seq_nx (e := E (some (.d (.lst (encKK tr)))) none none none none) (s := st) (by simp only [szs, fnM, rawM, seqM, ifM, tvM, truM, binM, unM, appM, consA, nilA, varM, conM, retM, retN, asgM, expM, raiseM, passS, callF, app1, app2, noExc, isExc_d, isExc_c, bindS_ok, bindS_err, bindS_stuck, Res.bind_ok, Res.bind_err, Res.bind_stuck, onBl_bl, andT, orT, notT, andV, orV, notV, tupM, lstM, toDs, toD, asD_d, asD_new, frzW_d, newT, newL, slM, slW, someO, noneO, ixW, addW, subW, mulW, modW, cmpW, negW, lenW, intW, tabW, isNonB, isNonW, isNon_d, List.map_cons, List.map_nil, List.length_cons, List.length_nil, List.replicate, List.append_nil, List.nil_append, List.cons_append, List.getElem?_cons_zero, List.getElem?_cons_succ, List.set_cons_zero, List.set_cons_succ, Nat.reduceAdd, Nat.reduceSub, if_true, if_false, ite_true, ite_false, Bool.not_true, Bool.not_false, Bool.and_true, Bool.and_false, Bool.false_eq_true, reduceIte, fin_same, finE_same, fin_new, atI_0, atI_1, atI_2, eqW_ofs, look_ofs, look_nil, dspC, newDc, inW, Option.isSome_some, Option.isSome_none, itM, forM, items_dl, items_dt, methL, methD, arg0, arg1, arg2, appendW, popW, listW, get_new, set_new, isLst_new, pow109, String.reduceBEq, String.reduceEq, Bool.false_or, Bool.true_or, Bool.or_false, Bool.or_true, E, hx, etr] <;> rfl)).trans ?_
    refine (seq_nx (e := E (some (.d (.lst (encKK tr)))) (some (.d (.int (mx (sizes tr))))) none none none) (s := st) (by
      have hl := lcm_ok (it := itM (varM 3)) (env := E (some (.d (.lst (encKK tr)))) none none none none) (st := st) (s1 := st) rfl elc hzs
      refine asg_ok (w := .d (.int (mx (sizes tr)))) ?_
      simp only [appM, app1, consA, nilA, hl, Res.bind_ok, hmax])).trans ?_
    refine (seq_nx (s := st.set k (.dct (encH K'))) (by
      unfold forM
      have hz : zipM2 (varM 3) (binM ixW (binM ixW (varM 0) (varM 1)) (conM (.int 2))) (E (some (.d (.lst (encKK tr)))) (some (.d (.int (mx (sizes tr))))) none none none) st = .ok (prs tr b.rows) st := by
        unfold zipM2
        have hrw : binM ixW (binM ixW (varM 0) (varM 1)) (conM (.int 2)) (E (some (.d (.lst (encKK tr)))) (some (.d (.int (mx (sizes tr))))) none none none) st = .ok (.d (.lst (encR b.rows))) st := by simp only [szs, fnM, rawM, seqM, ifM, tvM, truM, binM, unM, appM, consA, nilA, varM, conM, retM, retN, asgM, expM, raiseM, passS, callF, app1, app2, noExc, isExc_d, isExc_c, bindS_ok, bindS_err, bindS_stuck, Res.bind_ok, Res.bind_err, Res.bind_stuck, onBl_bl, andT, orT, notT, andV, orV, notV, tupM, lstM, toDs, toD, asD_d, asD_new, frzW_d, newT, newL, slM, slW, someO, noneO, ixW, addW, subW, mulW, modW, cmpW, negW, lenW, intW, tabW, isNonB, isNonW, isNon_d, List.map_cons, List.map_nil, List.length_cons, List.length_nil, List.replicate, List.append_nil, List.nil_append, List.cons_append, List.getElem?_cons_zero, List.getElem?_cons_succ, List.set_cons_zero, List.set_cons_succ, Nat.reduceAdd, Nat.reduceSub, if_true, if_false, ite_true, ite_false, Bool.not_true, Bool.not_false, Bool.and_true, Bool.and_false, Bool.false_eq_true, reduceIte, fin_same, finE_same, fin_new, atI_0, atI_1, atI_2, eqW_ofs, look_ofs, look_nil, dspC, newDc, inW, Option.isSome_some, Option.isSome_none, itM, forM, items_dl, items_dt, methL, methD, arg0, arg1, arg2, appendW, popW, listW, get_new, set_new, isLst_new, pow109, String.reduceBEq, String.reduceEq, Bool.false_or, Bool.true_or, Bool.or_false, Bool.or_true, E, h2, hPlook]
        simp only [hrw, E, varM, List.getElem?_cons_zero, List.getElem?_cons_succ, Res.bind_ok, asD_d, items_dl, prs]
      rw [hz, bindS_ok]
      exact eL)).trans ?_
    rw [hcur]
    have haK : (st.set k (Cell.dct (encH K')))[k]? = some (.dct (encH K')) := by rw [List.getElem?_set_self hlt]
    refine (seq_nx (e := E (some (.d (.lst (encKK tr)))) (some (.d (.int (valB P g b)))) x5 x6 x7) (s := st.set k (.dct (encH (putA K' n (valB P g b))))) ((setD_ok (k := k) (s := n) (d := .int (valB P g b)) (kvs := encH K') (by simp only [szs, fnM, rawM, seqM, ifM, tvM, truM, binM, unM, appM, consA, nilA, varM, conM, retM, retN, asgM, expM, raiseM, passS, callF, app1, app2, noExc, isExc_d, isExc_c, bindS_ok, bindS_err, bindS_stuck, Res.bind_ok, Res.bind_err, Res.bind_stuck, onBl_bl, andT, orT, notT, andV, orV, notV, tupM, lstM, toDs, toD, asD_d, asD_new, frzW_d, newT, newL, slM, slW, someO, noneO, ixW, addW, subW, mulW, modW, cmpW, negW, lenW, intW, tabW, isNonB, isNonW, isNon_d, List.map_cons, List.map_nil, List.length_cons, List.length_nil, List.replicate, List.append_nil, List.nil_append, List.cons_append, List.getElem?_cons_zero, List.getElem?_cons_succ, List.set_cons_zero, List.set_cons_succ, Nat.reduceAdd, Nat.reduceSub, if_true, if_false, ite_true, ite_false, Bool.not_true, Bool.not_false, Bool.and_true, Bool.and_false, Bool.false_eq_true, reduceIte, fin_same, finE_same, fin_new, atI_0, atI_1, atI_2, eqW_ofs, look_ofs, look_nil, dspC, newDc, inW, Option.isSome_some, Option.isSome_none, itM, forM, items_dl, items_dt, methL, methD, arg0, arg1, arg2, appendW, popW, listW, get_new, set_new, isLst_new, pow109, String.reduceBEq, String.reduceEq, Bool.false_or, Bool.true_or, Bool.or_false, Bool.or_true, E]) (by simp only [szs, fnM, rawM, seqM, ifM, tvM, truM, binM, unM, appM, consA, nilA, varM, conM, retM, retN, asgM, expM, raiseM, passS, callF, app1, app2, noExc, isExc_d, isExc_c, bindS_ok, bindS_err, bindS_stuck, Res.bind_ok, Res.bind_err, Res.bind_stuck, onBl_bl, andT, orT, notT, andV, orV, notV, tupM, lstM, toDs, toD, asD_d, asD_new, frzW_d, newT, newL, slM, slW, someO, noneO, ixW, addW, subW, mulW, modW, cmpW, negW, lenW, intW, tabW, isNonB, isNonW, isNon_d, List.map_cons, List.map_nil, List.length_cons, List.length_nil, List.replicate, List.append_nil, List.nil_append, List.cons_append, List.getElem?_cons_zero, List.getElem?_cons_succ, List.set_cons_zero, List.set_cons_succ, Nat.reduceAdd, Nat.reduceSub, if_true, if_false, ite_true, ite_false, Bool.not_true, Bool.not_false, Bool.and_true, Bool.and_false, Bool.false_eq_true, reduceIte, fin_same, finE_same, fin_new, atI_0, atI_1, atI_2, eqW_ofs, look_ofs, look_nil, dspC, newDc, inW, Option.isSome_some, Option.isSome_none, itM, forM, items_dl, items_dt, methL, methD, arg0, arg1, arg2, appendW, popW, listW, get_new, set_new, isLst_new, pow109, String.reduceBEq, String.reduceEq, Bool.false_or, Bool.true_or, Bool.or_false, Bool.or_true, E]) (by simp only [szs, fnM, rawM, seqM, ifM, tvM, truM, binM, unM, appM, consA, nilA, varM, conM, retM, retN, asgM, expM, raiseM, passS, callF, app1, app2, noExc, isExc_d, isExc_c, bindS_ok, bindS_err, bindS_stuck, Res.bind_ok, Res.bind_err, Res.bind_stuck, onBl_bl, andT, orT, notT, andV, orV, notV, tupM, lstM, toDs, toD, asD_d, asD_new, frzW_d, newT, newL, slM, slW, someO, noneO, ixW, addW, subW, mulW, modW, cmpW, negW, lenW, intW, tabW, isNonB, isNonW, isNon_d, List.map_cons, List.map_nil, List.length_cons, List.length_nil, List.replicate, List.append_nil, List.nil_append, List.cons_append, List.getElem?_cons_zero, List.getElem?_cons_succ, List.set_cons_zero, List.set_cons_succ, Nat.reduceAdd, Nat.reduceSub, if_true, if_false, ite_true, ite_false, Bool.not_true, Bool.not_false, Bool.and_true, Bool.and_false, Bool.false_eq_true, reduceIte, fin_same, finE_same, fin_new, atI_0, atI_1, atI_2, eqW_ofs, look_ofs, look_nil, dspC, newDc, inW, Option.isSome_some, Option.isSome_none, itM, forM, items_dl, items_dt, methL, methD, arg0, arg1, arg2, appendW, popW, listW, get_new, set_new, isLst_new, pow109, String.reduceBEq, String.reduceEq, Bool.false_or, Bool.true_or, Bool.or_false, Bool.or_true, E]) haK hzK).trans (by rw [hput, set_set']))).trans ?_
    simp only [szs, fnM, rawM, seqM, ifM, tvM, truM, binM, unM, appM, consA, nilA, varM, conM, retM, retN, asgM, expM, raiseM, passS, callF, app1, app2, noExc, isExc_d, isExc_c, bindS_ok, bindS_err, bindS_stuck, Res.bind_ok, Res.bind_err, Res.bind_stuck, onBl_bl, andT, orT, notT, andV, orV, notV, tupM, lstM, toDs, toD, asD_d, asD_new, frzW_d, newT, newL, slM, slW, someO, noneO, ixW, addW, subW, mulW, modW, cmpW, negW, lenW, intW, tabW, isNonB, isNonW, isNon_d, List.map_cons, List.map_nil, List.length_cons, List.length_nil, List.replicate, List.append_nil, List.nil_append, List.cons_append, List.getElem?_cons_zero, List.getElem?_cons_succ, List.set_cons_zero, List.set_cons_succ, Nat.reduceAdd, Nat.reduceSub, if_true, if_false, ite_true, ite_false, Bool.not_true, Bool.not_false, Bool.and_true, Bool.and_false, Bool.false_eq_true, reduceIte, fin_same, finE_same, fin_new, atI_0, atI_1, atI_2, eqW_ofs, look_ofs, look_nil, dspC, newDc, inW, Option.isSome_some, Option.isSome_none, itM, forM, items_dl, items_dt, methL, methD, arg0, arg1, arg2, appendW, popW, listW, get_new, set_new, isLst_new, pow109, String.reduceBEq, String.reduceEq, Bool.false_or, Bool.true_or, Bool.or_false, Bool.or_true, E]
theorem highest_ok : ∀ (q d : Nat) (n : Str) (v : Int), hF P d n = some v → d ≤ q → Rz n → HGive P pw (s_p_highest q) n v
  | 0, 0, n, v, h, _, _ => by cases h
  | 0, d + 1, n, v, h, hl, _ => by omega
  | q + 1, 0, n, v, h, _, _ => by cases h
  | q + 1, d + 1, n, v, h, hl, hn => by
    obtain ⟨b, hb, h1, rfl⟩ := hF_inv h
    exact highest_step hP hPl hgood hreach hb hn h fun m hm => by
      obtain ⟨u, hu⟩ := h1 m hm
      rw [hu]
      exact highest_ok q d m u hu (by omega) (hreach n b m hn hb hm)
end
noncomputable abbrev heB : MS := (ifM (tvM (binM (inW false) (varM 2) (frM (callF s_p_reached (consA (varM 0) (consA (varM 2) nilA))))))
 (retM (conM .non))
 passS)
theorem height_ok {P : Prg} (hP : PrgOk P) (hPl : P.length ≤ 70) (pw : W) (st : Store) (h2 : asD st pw = some (.dct (encP P))) (n : Str) (hlet : LetBy P n) :
    (∀ d v, hF P d n = some v → d ≤ 64 → s_p_height [pw, .d (.str n)] st = .ok (.d (.int v)) st) ∧ ((∃ y, (y = n ∨ Rch P n y) ∧ Rch P y y) → s_p_height [pw, .d (.str n)] st = .ok (.d .non) st) := by
  have hx : pw.isExc = false := noExc_of h2
  obtain ⟨b, hb, _⟩ := hlet n (.inl rfl)
  obtain ⟨F, hF1, hF2, eF⟩ := p_reached_ok pw st P n b h2 hP hPl hb
  let L : List Str := n :: F
  have hzL : (encS L).length ≤ sizeLine := small (by rw [List.length_map]; simp only [L, List.length_cons]; omega)
  have hLthere : ∀ m ∈ L, ∃ b, lookA m P = some b := fun m hm => by
    rcases List.mem_cons.mp hm with e | hm
    · subst e; exact ⟨b, hb⟩
    · obtain ⟨b, hb, _⟩ := hlet m (.inr ((hF1 m).mp hm)); exact ⟨b, hb⟩
  let E (x2 : Option W) : Env := [some pw, some (.d (.str n)), x2]
  -- one turn
  have turn : ∀ (G : Store) (m : Str), m ∈ L → ∃ G' : Store, (Rch P m m → heB (E (some (.d (.str m)))) (st ++ G) = .ret (.d .non) (st ++ G')) ∧ (¬ Rch P m m → heB (E (some (.d (.str m)))) (st ++ G) = .nx (E (some (.d (.str m)))) (st ++ G')) := fun G m hm => by
    obtain ⟨bm, hbm⟩ := hLthere m hm
    obtain ⟨Fm, hm1, hm2, em⟩ := p_reached_ok pw (st ++ G) P m bm (asD_app h2 G) hP hPl hbm
    let S' : Store := (st ++ G) ++ [.frz (.lst (encS Fm))]
    have hf : frM (callF s_p_reached (consA (varM 0) (consA (varM 2) nilA))) (E (some (.d (.str m)))) (st ++ G) = .ok (.d (.lst (encS Fm))) S' := by
      rw [fr_ok (k := (st ++ G).length) (s := (st ++ G) ++ [.lst (encS Fm)]) (d := .lst (encS Fm)) (by simp only [szs, fnM, rawM, seqM, ifM, tvM, truM, binM, unM, appM, consA, nilA, varM, conM, retM, retN, asgM, expM, raiseM, passS, callF, app1, app2, noExc, isExc_d, isExc_c, bindS_ok, bindS_err, bindS_stuck, Res.bind_ok, Res.bind_err, Res.bind_stuck, onBl_bl, andT, orT, notT, andV, orV, notV, tupM, lstM, toDs, toD, asD_d, asD_new, frzW_d, newT, newL, slM, slW, someO, noneO, ixW, addW, subW, mulW, modW, cmpW, negW, lenW, intW, tabW, isNonB, isNonW, isNon_d, List.map_cons, List.map_nil, List.length_cons, List.length_nil, List.replicate, List.append_nil, List.nil_append, List.cons_append, List.getElem?_cons_zero, List.getElem?_cons_succ, List.set_cons_zero, List.set_cons_succ, Nat.reduceAdd, Nat.reduceSub, if_true, if_false, ite_true, ite_false, Bool.not_true, Bool.not_false, Bool.and_true, Bool.and_false, Bool.false_eq_true, reduceIte, fin_same, finE_same, fin_new, atI_0, atI_1, atI_2, eqW_ofs, look_ofs, look_nil, dspC, newDc, inW, Option.isSome_some, Option.isSome_none, itM, forM, items_dl, items_dt, methL, methD, arg0, arg1, arg2, appendW, popW, listW, get_new, set_new, isLst_new, pow109, String.reduceBEq, String.reduceEq, Bool.false_or, Bool.true_or, Bool.or_false, Bool.or_true, E, hx, em]) (asD_new _ _), set_new]
    have hin : binM (inW false) (varM 2) (frM (callF s_p_reached (consA (varM 0) (consA (varM 2) nilA)))) (E (some (.d (.str m)))) (st ++ G) = .ok (.d (.bl (Fm.contains m))) S' := by
      rw [bin_ok (x := .d (.str m)) (s1 := st ++ G) rfl hf]
      simp only [inW, asD_d, all_strs, any_strs, if_true, Bool.false_eq_true, if_false]
    refine ⟨G ++ [.frz (.lst (encS Fm))], fun hr => ?_, fun hr => ?_⟩
    · have hc : Fm.contains m = true := contains_mem.mpr ((hm1 m).mpr hr)
      rw [hc] at hin
      refine (if_t (s := S') (by unfold tvM; rw [hin]; rfl)).trans ?_
      rw [← List.append_assoc]; rfl
    · have hc : Fm.contains m = false := by
        cases q : Fm.contains m with
        | false => rfl
        | true => exact absurd ((hm1 m).mp (contains_mem.mp q)) hr
      rw [hc] at hin
      refine (if_f (s := S') (by unfold tvM; rw [hin]; rfl)).trans ?_
      rw [← List.append_assoc]; rfl
  have hfr : frM (callF s_p_reached (consA (varM 0) (consA (varM 1) nilA))) (E none) st = .ok (.d (.lst (encS F))) (st ++ [.frz (.lst (encS F))]) := by
    rw [fr_ok (k := st.length) (s := st ++ [.lst (encS F)]) (d := .lst (encS F)) (by simp only [szs, fnM, rawM, seqM, ifM, tvM, truM, binM, unM, appM, consA, nilA, varM, conM, retM, retN, asgM, expM, raiseM, passS, callF, app1, app2, noExc, isExc_d, isExc_c, bindS_ok, bindS_err, bindS_stuck, Res.bind_ok, Res.bind_err, Res.bind_stuck, onBl_bl, andT, orT, notT, andV, orV, notV, tupM, lstM, toDs, toD, asD_d, asD_new, frzW_d, newT, newL, slM, slW, someO, noneO, ixW, addW, subW, mulW, modW, cmpW, negW, lenW, intW, tabW, isNonB, isNonW, isNon_d, List.map_cons, List.map_nil, List.length_cons, List.length_nil, List.replicate, List.append_nil, List.nil_append, List.cons_append, List.getElem?_cons_zero, List.getElem?_cons_succ, List.set_cons_zero, List.set_cons_succ, Nat.reduceAdd, Nat.reduceSub, if_true, if_false, ite_true, ite_false, Bool.not_true, Bool.not_false, Bool.and_true, Bool.and_false, Bool.false_eq_true, reduceIte, fin_same, finE_same, fin_new, atI_0, atI_1, atI_2, eqW_ofs, look_ofs, look_nil, dspC, newDc, inW, Option.isSome_some, Option.isSome_none, itM, forM, items_dl, items_dt, methL, methD, arg0, arg1, arg2, appendW, popW, listW, get_new, set_new, isLst_new, pow109, String.reduceBEq, String.reduceEq, Bool.false_or, Bool.true_or, Bool.or_false, Bool.or_true, E, hx, eF]) (asD_new _ _), set_new]
  have hit : itM (binM (addW false) (lstM false (consA (varM 1) nilA)) (frM (callF s_p_reached (consA (varM 0) (consA (varM 1) nilA))))) (E none) st = .ok (encS L) (st ++ [.frz (.lst (encS F))]) := by
    unfold itM
    rw [bin_ok (x := .d (.lst [.str n])) (s1 := st) (by simp only [szs, fnM, rawM, seqM, ifM, tvM, truM, binM, unM, appM, consA, nilA, varM, conM, retM, retN, asgM, expM, raiseM, passS, callF, app1, app2, noExc, isExc_d, isExc_c, bindS_ok, bindS_err, bindS_stuck, Res.bind_ok, Res.bind_err, Res.bind_stuck, onBl_bl, andT, orT, notT, andV, orV, notV, tupM, lstM, toDs, toD, asD_d, asD_new, frzW_d, newT, newL, slM, slW, someO, noneO, ixW, addW, subW, mulW, modW, cmpW, negW, lenW, intW, tabW, isNonB, isNonW, isNon_d, List.map_cons, List.map_nil, List.length_cons, List.length_nil, List.replicate, List.append_nil, List.nil_append, List.cons_append, List.getElem?_cons_zero, List.getElem?_cons_succ, List.set_cons_zero, List.set_cons_succ, Nat.reduceAdd, Nat.reduceSub, if_true, if_false, ite_true, ite_false, Bool.not_true, Bool.not_false, Bool.and_true, Bool.and_false, Bool.false_eq_true, reduceIte, fin_same, finE_same, fin_new, atI_0, atI_1, atI_2, eqW_ofs, look_ofs, look_nil, dspC, newDc, inW, Option.isSome_some, Option.isSome_none, itM, forM, items_dl, items_dt, methL, methD, arg0, arg1, arg2, appendW, popW, listW, get_new, set_new, isLst_new, pow109, String.reduceBEq, String.reduceEq, Bool.false_or, Bool.true_or, Bool.or_false, Bool.or_true, E]) hfr]
    have h2 : [D.str n] ++ encS F = encS L := rfl
    simp only [addW, asD_d, h2, newL, if_pos hzL, Bool.false_eq_true, if_false, Res.bind_ok, items_dl]
  -- the loop
  have none_ : ∀ (l : List Str) (G : Store) (x2 : Option W), (∀ m ∈ l, m ∈ L) → (∀ m ∈ l, ¬ Rch P m m) → ∃ (G' : Store) (x2' : Option W), loopS (.name 2) heB (encS l) (E x2) (st ++ G) = .nx (E x2') (st ++ G') := fun l => by
    induction l with
    | nil => exact fun G x2 _ _ => ⟨G, x2, rfl⟩
    | cons m l ih =>
      intro G x2 hl hn
      obtain ⟨G1, _, t2⟩ := turn G m (hl m List.mem_cons_self)
      obtain ⟨G', x2', e⟩ := ih G1 (some (.d (.str m))) (fun z hz => hl z (List.mem_cons_of_mem _ hz)) (fun z hz => hn z (List.mem_cons_of_mem _ hz))
      exact ⟨G', x2', (loopS_nx (env1 := E (some (.d (.str m)))) rfl (t2 (hn m List.mem_cons_self))).trans e⟩
  have some_ : ∀ (l : List Str) (G : Store) (x2 : Option W), (∀ m ∈ l, m ∈ L) → (∃ m ∈ l, Rch P m m) → ∃ (G' : Store), loopS (.name 2) heB (encS l) (E x2) (st ++ G) = .ret (.d .non) (st ++ G') := fun l => by
    induction l with
    | nil => exact fun G x2 _ ⟨m, hm, _⟩ => absurd hm List.not_mem_nil
    | cons m l ih =>
      intro G x2 hl ⟨y, hy, hyy⟩
      obtain ⟨G1, t1, t2⟩ := turn G m (hl m List.mem_cons_self)
      by_cases hr : Rch P m m
      · exact ⟨G1, loopS_ret (env1 := E (some (.d (.str m)))) rfl (t1 hr)⟩
      · have hy' : y ∈ l := by
          rcases List.mem_cons.mp hy with e | h
          · subst e; exact absurd hyy hr
          · exact h
        obtain ⟨G', e⟩ := ih G1 (some (.d (.str m))) (fun z hz => hl z (List.mem_cons_of_mem _ hz)) ⟨y, hy', hyy⟩
        exact ⟨G', (loopS_nx (env1 := E (some (.d (.str m)))) rfl (t2 hr)).trans e⟩
  constructor
  · intro d v hv hd
    have hno := no_ring hv
    obtain ⟨G', x2', eL⟩ := none_ L [.frz (.lst (encS F))] none (fun m h => h) (fun m hm => hno m (by
      rcases List.mem_cons.mp hm with e | hm
      · exact .inl e
      · exact .inr ((hF1 m).mp hm)))
    let Rz : Str → Prop := fun m => m = n ∨ Rch P n m
    have hreach : ∀ a b m, Rz a → lookA a P = some b → m ∈ named b → Rz m := fun a b2 m ha hb2 hm => by
      rcases ha with ha | ha
      · rw [ha] at hb2; exact .inr (.one hb2 hm)
      · exact .inr (.more ha hb2 hm)
    have hh := highest_ok hP (by omega) (pw := pw) (Rz := Rz) hlet hreach 64 d n v hv hd (.inl rfl) (st ++ G' ++ [.dct []]) (st ++ G').length [] (by simp) (asD_app (asD_app h2 _) _) (fun i hi => by
      subst hi
      have := asD_lt h2
      rw [List.length_append]; omega) ⟨List.nodup_nil, fun p hp => absurd hp List.not_mem_nil⟩
    obtain ⟨K', _, e⟩ := hh
    rw [set_new] at e
    refine (fnM_ret (w := .d (.int v)) (st' := st ++ (G' ++ [.dct (encH K')])) rfl ?_).trans (fin_app _ _ _)
    unfold b_p_height
    refine (seq_nx (e := E x2') (s := st ++ G') (by
      unfold forM
      show bindS (itM _ (E none) st) _ _ = _
      rw [hit, bindS_ok]
      exact eL)).trans ?_
    rw [← List.append_assoc]
    generalize hS : st ++ G' = S at e
    simp only [szs, fnM, rawM, seqM, ifM, tvM, truM, binM, unM, appM, consA, nilA, varM, conM, retM, retN, asgM, expM, raiseM, passS, callF, app1, app2, noExc, isExc_d, isExc_c, bindS_ok, bindS_err, bindS_stuck, Res.bind_ok, Res.bind_err, Res.bind_stuck, onBl_bl, andT, orT, notT, andV, orV, notV, tupM, lstM, toDs, toD, asD_d, asD_new, frzW_d, newT, newL, slM, slW, someO, noneO, ixW, addW, subW, mulW, modW, cmpW, negW, lenW, intW, tabW, isNonB, isNonW, isNon_d, List.map_cons, List.map_nil, List.length_cons, List.length_nil, List.replicate, List.append_nil, List.nil_append, List.cons_append, List.getElem?_cons_zero, List.getElem?_cons_succ, List.set_cons_zero, List.set_cons_succ, Nat.reduceAdd, Nat.reduceSub, if_true, if_false, ite_true, ite_false, Bool.not_true, Bool.not_false, Bool.and_true, Bool.and_false, Bool.false_eq_true, reduceIte, fin_same, finE_same, fin_new, atI_0, atI_1, atI_2, eqW_ofs, look_ofs, look_nil, dspC, newDc, inW, Option.isSome_some, Option.isSome_none, itM, forM, items_dl, items_dt, methL, methD, arg0, arg1, arg2, appendW, popW, listW, get_new, set_new, isLst_new, pow109, String.reduceBEq, String.reduceEq, Bool.false_or, Bool.true_or, Bool.or_false, Bool.or_true, E, dnewM, hx, e]
  · rintro ⟨y, hy, hyy⟩
    obtain ⟨G', eL⟩ := some_ L [.frz (.lst (encS F))] none (fun m h => h) ⟨y, by
      rcases hy with e | hy
      · subst e; exact List.mem_cons_self
      · exact List.mem_cons_of_mem _ ((hF1 y).mpr hy), hyy⟩
    refine (fnM_ret (w := .d .non) (st' := st ++ G') rfl ?_).trans (fin_app _ _ _)
    unfold b_p_height
    refine seq_ret ?_
    unfold forM
    show bindS (itM _ (E none) st) _ _ = _
    rw [hit, bindS_ok]
    exact eL
end Py

namespace Py
open PySem L2
section
variable {st : Store} {k : Nat} (hk : k < st.length) (ns : List Int) {T : Td} (hT : TdOk T)
include hk hT
end
section
variable {st : Store} {k : Nat} (hk : k < st.length) (ns : List Int) {T : Td} (hT : TdOk T)
include hk hT
end
end Py

namespace Py
open PySem L2
end Py

namespace Py
open PySem L2
section
variable {P : Prg} (hP : PrgOk P) (ns : List Int) (just t : Int) (n : Str) (vs : List Val) (hv : ∀ v ∈ vs, v.ok) (hl : vs.length ≤ 400)
include hP hv hl
end
end Py

namespace Py
open PySem L2
theorem fineF : ∀ {fs : Frs}, (∀ g ∈ fs, PyData.strOk g.1 = true) → fineL (fs.map encFr) = true
  | [], _ => rfl
  | g :: r, h => by
    show (((PyData.strOk g.1 && (true && true))) && fineL (r.map encFr)) = true
    rw [h g List.mem_cons_self, fineF fun x hx => h x (List.mem_cons_of_mem _ hx)]; rfl
theorem depF : ∀ (fs : Frs), depL (fs.map encFr) ≤ 1
  | [] => by show 0 ≤ 1; omega
  | g :: r => by
    show max (encFr g).dep (depL (r.map encFr)) ≤ 1
    have h1 := depF r
    have h2 : (encFr g).dep ≤ 1 := Nat.le_refl 1
    omega
theorem encF_eq {fs : Frs} (h : ∀ g ∈ fs, PyData.strOk g.1 = true) : eqD (.lst (encF fs)) (.lst (encF fs)) = some true := by
  have h1 : fineL (encF fs) = true := fineF fun g hg => h g (List.mem_reverse.mp hg)
  have h2 := depF fs.reverse
  have h3 := eqvL_refl2 _ h1
  have h4 : depL (encF fs) ≤ 1 := h2
  generalize encF fs = z at h1 h3 h4 ⊢
  unfold eqD
  simp only [D.fine, D.dep, D.eqv, h1, h3]
  simp
  omega
section
variable {st : Store} {j s f : Nat} {pw : W} {P : Prg} {vs : List Val} {fs : Frs}
end
end Py

namespace Py
open PySem L2
section
variable {st : Store} {j s f : Nat} {pw : W} {P : Prg} {vs : List Val} {fs : Frs}
theorem stepS_over (h : Mat st j s f pw P vs []) : s_m_step [.c j] st = .ok (.d .non) st := by
  have hov := over_ok h
  have hmo := meth_ok (st := st) (m := "over") (F := s_m_over) (o := varM 0) (env := [some (.c j), none, none, none, none, none, none]) (j := j) rfl h.obj (nm_over _ _ _)
  rw [hov] at hmo
  refine rawM_ret rfl (w := .d .non) ?_ rfl
  show b_m_step [some (.c j), none, none, none, none, none, none] st = _
  unfold b_m_step
  refine seq_ret ((if_t (s := st) (by unfold tvM; rw [hmo]; rfl)).trans ?_)
  rfl
end
section
variable {P : Prg} (hP : PrgOk P) {j f : Nat} {pw : W}
include hP
theorem fr_names {fs : Frs} (h : FrOk P fs) : ∀ g ∈ fs, PyData.strOk g.1 = true := fun g hg => by
  obtain ⟨b, hb, _⟩ := h g hg
  exact (hP.nm _ (lookA_mem hb)).ok
end
end Py

namespace Py
open PySem L2
/-! ### ways of the typed machine -/
inductive Go (P : Prg) : Nat → List Val → Frs → List Val → Frs → Prop
  | nil {vs : List Val} {fs : Frs} : Go P 0 vs fs vs fs
  | cons {k : Nat} {vs vs1 vs' : List Val} {n : Str} {p : Nat} {r fs1 fs' : Frs} {b : Blk} {row : Rw} : lookA n P = some b → b.rows[p]? = some row → stepT P vs n p r row = .ok (vs1, fs1) → Go P k vs1 fs1 vs' fs' → Go P (k + 1) vs ((n, p) :: r) vs' fs'
theorem Go.trans {P : Prg} {k l : Nat} {a c e : List Val} {b d f : Frs} (h : Go P k a b c d) (g : Go P l c d e f) : Go P (k + l) a b e f := by
  induction h with
  | nil => rw [Nat.zero_add]; exact g
  | cons h1 h2 h3 _ ih =>
    rw [Nat.add_right_comm]
    exact .cons h1 h2 h3 (ih g)
theorem Go.cast {P : Prg} {k l : Nat} {a a' c c' : List Val} {b b' d d' : Frs} (h : Go P k a b c d) (hk : k = l) (ha : a = a') (hb : b = b') (hc : c = c') (hd : d = d') : Go P l a' b' c' d' := by
  subst hk ha hb hc hd; exact h
theorem Go.way {P : Prg} {k : Nat} {vs vs' : List Val} {fs fs' : Frs} (h : Go P k vs fs vs' fs') (m : Nat) : (wayT P (k + m) vs fs).1 = (wayT P m vs' fs').1 ∧ (wayT P (k + m) vs fs).2.1 = (wayT P m vs' fs').2.1 := by
  induction h with
  | nil => rw [Nat.zero_add]; exact ⟨rfl, rfl⟩
  | @cons k vs vs1 vs' n p r fs1 fs' b row h1 h2 h3 _ ih =>
    have hp := (List.getElem?_eq_some_iff.mp h2)
    obtain ⟨hp1, hp2⟩ := hp
    subst hp2
    rw [Nat.add_right_comm, wayT_ok h1 hp1 h3]
    exact ih
theorem Go.over {P : Prg} {k m : Nat} {vs vs' : List Val} {fs : Frs} (h : Go P k vs fs vs' []) (hm : k ≤ m) : (wayT P m vs fs).1 = none ∧ (wayT P m vs fs).2.1 = vs' := by
  obtain ⟨l, rfl⟩ := Nat.exists_eq_add_of_le hm
  have := h.way l
  rw [wayT_nil] at this
  exact this
theorem Go.dry {P : Prg} {k : Nat} {vs vs' : List Val} {fs fs' : Frs} (h : Go P k vs fs vs' fs') : ∀ m, m < k → (wayT P m vs fs).1 = some .dry := by
  induction h with
  | nil => exact fun m hm => absurd hm (Nat.not_lt_zero m)
  | @cons k vs vs1 vs' n p r fs1 fs' b row h1 h2 h3 _ ih =>
    intro m hm
    cases m with
    | zero => rfl
    | succ m =>
      obtain ⟨hp1, hp2⟩ := List.getElem?_eq_some_iff.mp h2
      subst hp2
      rw [wayT_ok h1 hp1 h3]
      exact ih m (by omega)
theorem leave_in {P : Prg} {n : Str} {p : Nat} {r : Frs} {b : Blk} (hb : lookA n P = some b) (hp : p < b.rows.length) : leaveR P ((n, p) :: r) = (n, p) :: r := by
  unfold leaveR
  rw [hb]
  simp only
  rw [if_neg (by omega)]
theorem leave_out {P : Prg} {n : Str} {p : Nat} {r : Frs} {b : Blk} (hb : lookA n P = some b) (hp : p = b.rows.length) : leaveR P ((n, p) :: r) = leaveR P r := by
  conv => lhs; unfold leaveR
  rw [hb]
  simp only
  rw [if_pos hp]
section
variable {P : Prg} {n : Str} {p : Nat} {r : Frs} {b : Blk} (hb : lookA n P = some b)
include hb
theorem go_num {v : Int} (h : b.rows[p]? = some (.plain (.num v))) (vs : List Val) : Go P 1 vs ((n, p) :: r) (vs ++ [.i v]) (leaveR P ((n, p + 1) :: r)) := by
  refine .cons hb h ?_ .nil
  simp only [stepT, Row.wants, need_nil, doneV]
theorem go_copy (h : b.rows[p]? = some (.plain (.copy 0))) (B : List Val) (x : Val) : Go P 1 (B ++ [x]) ((n, p) :: r) (B ++ [x, x]) (leaveR P ((n, p + 1) :: r)) := by
  refine .cons hb h ?_ .nil
  have hn : need ((B ++ [x]).map Val.kd) (Row.copy 0).wants = none := by
    show need _ [none] = none
    unfold need
    simp [bad]
  simp only [stepT, hn, doneV]
  simp
theorem go_add (h : b.rows[p]? = some (.plain (.op .add))) (B : List Val) (x y : Int) : Go P 1 (B ++ [.i x, .i y]) ((n, p) :: r) (B ++ [.i ((x + y) % 1000000000)]) (leaveR P ((n, p + 1) :: r)) := by
  refine .cons hb h ?_ .nil
  have hn : need ((B ++ [Val.i x, Val.i y]).map Val.kd) (Row.op .add).wants = none := by
    show need _ [some .num, some .num] = none
    unfold need
    simp [bad, Val.kd]
  simp only [stepT, hn, doneV]
  simp [reck]
theorem go_call {m : Str} {bm : Blk} (h : b.rows[p]? = some (.call m)) (hm : lookA m P = some bm) (vs : List Val) : Go P 1 vs ((n, p) :: r) vs (leaveR P ((m, 0) :: (n, p + 1) :: r)) := by
  refine .cons hb h ?_ .nil
  simp only [stepT, enterT, hm]
theorem go_if {a c : Str} {bm : Blk} {z : Int} (h : b.rows[p]? = some (.iff a c)) (hm : lookA (if z = 0 then c else a) P = some bm) (B : List Val) : Go P 1 (B ++ [.i z]) ((n, p) :: r) B (leaveR P (((if z = 0 then c else a), 0) :: (n, p + 1) :: r)) := by
  refine .cons hb h ?_ .nil
  have hn : need ((B ++ [Val.i z]).map Val.kd) [some .num] = none := by
    unfold need
    simp [bad, Val.kd]
  have hl : (B ++ [Val.i z]).getLast? = some (.i z) := by simp
  have hi : (if some (Val.i z) = some (Val.i 0) then c else a) = if z = 0 then c else a := by
    by_cases h0 : z = 0
    · subst h0; rfl
    · rw [if_neg h0, if_neg (fun e => h0 (by injection e with e; injection e))]
  simp only [stepT, hn, hl, hi, List.dropLast_concat, enterT, hm]
end
/-! ### the counting program -/
def rowsY (lv : Bool) (n0 : Str) (s : Int) : List Rw := if lv = true then [.plain (.copy 0), .plain (.num 999999999), .plain (.op .add), .call n0, .plain (.op .add)] else [.plain (.num 999999999), .plain (.op .add), .call n0, .plain (.num s), .plain (.op .add)]
abbrev blkN (rs : List Rw) : Blk := ⟨[.num], [.num], rs⟩
structure Cnt (P : Prg) (n0 n1 n2 : Str) (lv : Bool) (s : Int) : Prop where
  h0 : lookA n0 P = some (blkN [.plain (.copy 0), .iff n1 n2])
  h1 : lookA n1 P = some (blkN (rowsY lv n0 s))
  h2 : lookA n2 P = some (blkN [])
def triN : Nat → Nat
  | 0 => 0
  | c + 1 => triN c + (c + 1)
theorem triN_eq : ∀ c, 2 * triN c = c * (c + 1)
  | 0 => rfl
  | c + 1 => by
    have := triN_eq c
    have h : (c + 1) * (c + 1 + 1) = c * (c + 1) + 2 * (c + 1) := by rw [Nat.add_mul c 1 (c + 1 + 1), Nat.mul_add c (c + 1) 1]; omega
    rw [h]
    show 2 * (triN c + (c + 1)) = _
    omega
theorem triN_le : ∀ c, c ≤ 1000 → triN c ≤ 1000000 := fun c hc => by
  have h1 := triN_eq c
  have h2 : c * (c + 1) ≤ 1000 * 1001 := Nat.mul_le_mul hc (by omega)
  omega
def resT (lv : Bool) (s : Int) (c : Nat) : Int := if lv = true then (triN c : Int) else (c : Int) * s % 1000000000
def lftT (lv : Bool) (c : Nat) : List Val := if lv = true then [.i c] else []
section
variable {P : Prg} {n0 n1 n2 : Str} {lv : Bool} {s : Int} (hC : Cnt P n0 n1 n2 lv s)
include hC
theorem cnt_down {c : Nat} (hc : c + 1 ≤ 1000) (B : List Val) (r : Frs) : Go P (5 + lv.toNat) (B ++ [.i ((c + 1 : Nat) : Int)]) ((n0, 0) :: r) (B ++ lftT lv (c + 1) ++ [.i (c : Int)]) ((n0, 0) :: (n1, 3 + lv.toNat) :: (n0, 2) :: r) := by
  obtain ⟨h0, h1, h2⟩ := hC
  have g1 := go_copy h0 (p := 0) (r := r) rfl B (.i ((c + 1 : Nat) : Int))
  rw [leave_in h0 (by simp [rowsY])] at g1
  have hz : ((c + 1 : Nat) : Int) ≠ 0 := by omega
  have g2 := go_if h0 (p := 1) (r := r) (a := n1) (c := n2) (z := ((c + 1 : Nat) : Int)) (bm := blkN (rowsY lv n0 s)) rfl (by rw [if_neg hz]; exact h1) (B ++ [.i ((c + 1 : Nat) : Int)])
  rw [if_neg hz] at g2
  have hy : 0 < (blkN (rowsY lv n0 s)).rows.length := by show 0 < (rowsY lv n0 s).length; unfold rowsY; split <;> simp
  rw [leave_in h1 hy] at g2
  have hsum : (((c + 1 : Nat) : Int) + 999999999) % 1000000000 = (c : Int) := by omega
  cases lv with
  | true =>
    have g3 := go_copy h1 (p := 0) (r := (n0, 2) :: r) rfl B (.i ((c + 1 : Nat) : Int))
    rw [leave_in h1 (by simp [rowsY])] at g3
    have g4 := go_num h1 (p := 1) (r := (n0, 2) :: r) (v := 999999999) rfl (B ++ [.i ((c + 1 : Nat) : Int), .i ((c + 1 : Nat) : Int)])
    rw [leave_in h1 (by simp [rowsY])] at g4
    have g5 := go_add h1 (p := 2) (r := (n0, 2) :: r) rfl (B ++ [.i ((c + 1 : Nat) : Int)]) ((c + 1 : Nat) : Int) 999999999
    rw [leave_in h1 (by simp [rowsY]), hsum] at g5
    have g6 := go_call h1 (p := 3) (r := (n0, 2) :: r) (m := n0) rfl h0 (B ++ [.i ((c + 1 : Nat) : Int)] ++ [.i (c : Int)])
    rw [leave_in h0 (by simp [rowsY])] at g6
    exact ((((g1.trans (g2.cast rfl (by simp) rfl rfl rfl)).trans (g3.cast rfl rfl rfl rfl rfl)).trans (g4.cast rfl rfl rfl rfl rfl)).trans (g5.cast rfl (by simp) rfl rfl rfl)).trans (g6.cast rfl rfl rfl rfl rfl)
  | false =>
    have g4 := go_num h1 (p := 0) (r := (n0, 2) :: r) (v := 999999999) rfl (B ++ [.i ((c + 1 : Nat) : Int)])
    rw [leave_in h1 (by simp [rowsY])] at g4
    have g5 := go_add h1 (p := 1) (r := (n0, 2) :: r) rfl B ((c + 1 : Nat) : Int) 999999999
    rw [leave_in h1 (by simp [rowsY]), hsum] at g5
    have g6 := go_call h1 (p := 2) (r := (n0, 2) :: r) (m := n0) rfl h0 (B ++ [.i (c : Int)])
    rw [leave_in h0 (by simp [rowsY])] at g6
    exact (((g1.trans (g2.cast rfl (by simp) rfl rfl rfl)).trans g4).trans (g5.cast rfl (by simp) rfl rfl rfl)).trans (g6.cast rfl rfl rfl (by simp [lftT]) rfl)
theorem cnt_zero (B : List Val) (r : Frs) : Go P 2 (B ++ [.i 0]) ((n0, 0) :: r) (B ++ [.i 0]) (leaveR P r) := by
  obtain ⟨h0, h1, h2⟩ := hC
  have g1 := go_copy h0 (p := 0) (r := r) rfl B (.i 0)
  rw [leave_in h0 (by simp [rowsY])] at g1
  have g2 := go_if h0 (p := 1) (r := r) (a := n1) (c := n2) (z := 0) (bm := blkN []) rfl (by rw [if_pos rfl]; exact h2) (B ++ [.i 0])
  rw [if_pos rfl, leave_out (p := 0) h2 rfl, leave_out (p := 1 + 1) h0 rfl] at g2
  exact g1.trans (g2.cast rfl (by simp) rfl rfl rfl)
theorem cnt_up {c : Nat} (hc : c + 1 ≤ 1000) (B : List Val) (r : Frs) : Go P (2 - lv.toNat) (B ++ lftT lv (c + 1) ++ [.i (resT lv s c)]) ((n1, 3 + lv.toNat) :: (n0, 2) :: r) (B ++ [.i (resT lv s (c + 1))]) (leaveR P r) := by
  obtain ⟨h0, h1, h2⟩ := hC
  cases lv with
  | true =>
    have g := go_add h1 (p := 4) (r := (n0, 2) :: r) rfl B ((c + 1 : Nat) : Int) (triN c)
    rw [leave_out (p := 4 + 1) h1 rfl, leave_out (p := 2) h0 rfl] at g
    have ht := triN_le (c + 1) hc
    have he : (((c + 1 : Nat) : Int) + (triN c : Int)) % 1000000000 = (triN (c + 1) : Int) := by
      have : triN (c + 1) = triN c + (c + 1) := rfl
      omega
    exact g.cast rfl (by simp [lftT, resT]) rfl (by rw [he]; rfl) rfl
  | false =>
    have g3 := go_num h1 (p := 3) (r := (n0, 2) :: r) (v := s) rfl (B ++ [.i (resT false s c)])
    rw [leave_in h1 (by simp [rowsY])] at g3
    have g := go_add h1 (p := 4) (r := (n0, 2) :: r) rfl B (resT false s c) s
    rw [leave_out (p := 4 + 1) h1 rfl, leave_out (p := 2) h0 rfl] at g
    have he : (resT false s c + s) % 1000000000 = resT false s (c + 1) := by
      show ((c : Int) * s % 1000000000 + s) % 1000000000 = ((c + 1 : Nat) : Int) * s % 1000000000
      rw [Int.natCast_add, Int.add_mul, Int.emod_add_emod]
      simp
    exact (g3.trans (g.cast rfl (by simp) rfl (by rw [he]) rfl)).cast rfl (by simp [lftT]) rfl rfl rfl
theorem cnt_in (r : Frs) : leaveR P ((n1, 3 + lv.toNat) :: r) = (n1, 3 + lv.toNat) :: r := leave_in hC.h1 (by cases lv <;> simp [rowsY])
/-- the whole count -/
theorem cnt_all : ∀ (c : Nat), c ≤ 1000 → ∀ (B : List Val) (r : Frs), Go P (7 * c + 2) (B ++ [.i (c : Int)]) ((n0, 0) :: r) (B ++ [.i (resT lv s c)]) (leaveR P r)
  | 0, _, B, r => by
    have h := cnt_zero hC B r
    refine h.cast rfl rfl rfl ?_ rfl
    cases lv <;> simp [resT, triN]
  | c + 1, hc, B, r => by
    have g1 := cnt_down hC hc B r
    have g2 := cnt_all c (by omega) (B ++ lftT lv (c + 1)) ((n1, 3 + lv.toNat) :: (n0, 2) :: r)
    rw [cnt_in hC] at g2
    have g3 := cnt_up hC hc B r
    refine ((g1.trans g2).trans g3).cast ?_ rfl rfl rfl rfl
    cases lv <;> simp [Bool.toNat] <;> omega
/-- so deep -/
def towT (lv : Bool) (n0 n1 : Str) : Nat → Frs
  | 0 => []
  | m + 1 => (n1, 3 + lv.toNat) :: (n0, 2) :: towT lv n0 n1 m
def lefT (lv : Bool) (c m : Nat) : List Val := if lv = true then (List.range m).map fun i => .i ((c - i : Nat) : Int) else []
omit hC in
theorem lefT_succ (lv : Bool) {c m : Nat} : lefT lv c (m + 1) = lefT lv c m ++ lftT lv (c - m) := by
  cases lv
  · simp [lefT, lftT]
  · simp [lefT, lftT, List.range_succ]
theorem cnt_deep {c : Nat} (hc : c ≤ 1000) (B : List Val) (r : Frs) : ∀ (m : Nat), m ≤ c → Go P ((5 + lv.toNat) * m) (B ++ [.i (c : Int)]) ((n0, 0) :: r) (B ++ lefT lv c m ++ [.i ((c - m : Nat) : Int)]) ((n0, 0) :: (towT lv n0 n1 m ++ r))
  | 0, _ => by
    refine (Go.nil (P := P)).cast (by simp) rfl rfl ?_ rfl
    cases lv <;> simp [lefT]
  | m + 1, hm => by
    have g1 := cnt_deep hc B r m (by omega)
    have e : c - m = (c - (m + 1)) + 1 := by omega
    have g2 := cnt_down hC (c := c - (m + 1)) (by omega) (B ++ lefT lv c m) (towT lv n0 n1 m ++ r)
    rw [← e] at g2
    refine (g1.trans g2).cast (by rw [Nat.mul_succ]) rfl rfl ?_ rfl
    rw [lefT_succ]
    simp only [List.append_assoc]
end
end Py

namespace Py
open PySem L2
/-! ### two machines side by side -/
def Keep (st S : Store) : Prop := st.length ≤ S.length ∧ ∀ i, i < st.length → S[i]? = st[i]?
theorem Keep.refl {st : Store} : Keep st st := ⟨Nat.le_refl _, fun _ _ => rfl⟩
theorem Keep.app {st g : Store} : Keep st (st ++ g) := ⟨by simp, fun i hi => List.getElem?_append_left hi⟩
theorem Keep.trans {a b c : Store} (h : Keep a b) (g : Keep b c) : Keep a c := ⟨Nat.le_trans h.1 g.1, fun i hi => (g.2 i (Nat.lt_of_lt_of_le hi h.1)).trans (h.2 i hi)⟩
theorem Pres.keep {j f : Nat} {st S S' : Store} (h : Pres j f S S') (hk : Keep st S) (hj : st.length ≤ j) (hf : st.length ≤ f) : Keep st S' :=
  ⟨Nat.le_trans hk.1 h.1, fun i hi => (h.2 i (Nat.lt_of_lt_of_le hi hk.1) (by omega) (by omega)).trans (hk.2 i hi)⟩
theorem Keep.asD {st S : Store} {w : W} {d : D} (h : Keep st S) (e : Py.asD st w = some d) : Py.asD S w = some d := by
  cases w with
  | d x => exact e
  | exc => exact e
  | c k =>
    unfold Py.asD at e ⊢
    simp only at e ⊢
    by_cases hk : k < st.length
    · rw [h.2 k hk]; exact e
    · rw [List.getElem?_eq_none (by omega)] at e; cases e
theorem fin_keep {st S : Store} (h : Keep st S) (x : D) : fin st (.d x) S = .ok (.d x) st := by
  unfold fin
  rw [if_pos ⟨h.1, fun k fs hk e => by rw [← h.2 k hk]; exact e⟩]
  simp only
  congr 1
  refine List.ext_getElem? fun i => ?_
  by_cases hi : i < st.length
  · rw [List.getElem?_take_of_lt hi]; exact h.2 i hi
  · rw [List.getElem?_take, if_neg hi, List.getElem?_eq_none (by omega)]
theorem Mat.pres {st st' : Store} {j s f j2 f2 : Nat} {pd : D} {P : Prg} {vs : List Val} {fs : Frs} (h : Mat st j s f (.d pd) P vs fs) (hp : Pres j2 f2 st st') (h1 : j ≠ j2) (h2 : j ≠ f2) (h3 : s ≠ j2) (h4 : s ≠ f2) (h5 : f ≠ j2) (h6 : f ≠ f2) : Mat st' j s f (.d pd) P vs fs where
  obj := (hp.2 j h.lt.1 h1 h2).trans h.obj
  stk := (hp.2 s h.lt.2.1 h3 h4).trans h.stk
  frm := (hp.2 f h.lt.2.2 h5 h6).trans h.frm
  pr := h.pr
  ne := h.ne
  pc i hi := by cases hi
structure Half (S : Store) (j s f : Nat) (pd : D) (P : Prg) (vs : List Val) (fs : Frs) (n : Nat) : Prop where
  m : Mat S j s f (.d pd) P vs fs
  ok : ∀ v ∈ vs, v.ok
  fr : FrOk P fs
  vl : vs.length ≤ n
  fl : fs.length ≤ n
theorem Half.more {S : Store} {j s f : Nat} {pd : D} {P : Prg} {vs : List Val} {fs : Frs} {n m : Nat} (h : Half S j s f pd P vs fs n) (hm : n ≤ m) : Half S j s f pd P vs fs m := ⟨h.m, h.ok, h.fr, Nat.le_trans h.vl hm, Nat.le_trans h.fl hm⟩
def Rest (P : Prg) (k : Nat) (vs : List Val) (fs : Frs) (vE : List Val) : Prop := ∃ l, l ≤ k ∧ Go P l vs fs vE []
section
variable {P : Prg} (hP : PrgOk P) {S : Store} {j s f : Nat} {pd : D} {vs : List Val} {fs : Frs} {n : Nat}
include hP
theorem half_step (h : Half S j s f pd P vs fs n) (hn : n ≤ 100000) {k : Nat} {vs' : List Val} {fs' : Frs} (g : Go P (k + 1) vs fs vs' fs') :
    ∃ (S1 : Store) (s1 : Nat) (vs1 : List Val) (fs1 : Frs), s_m_step [.c j] S = .ok (.d .non) S1 ∧ Half S1 j s1 f pd P vs1 fs1 (n + 1) ∧ Pres j f S S1 ∧ (s1 = s ∨ S.length ≤ s1) ∧ Go P k vs1 fs1 vs' fs' := by
  cases g with
  | @cons _ _ vs1 _ m p r fs1 _ b row h1 h2 h3 g' =>
    obtain ⟨hp1, hp2⟩ := List.getElem?_eq_some_iff.mp h2
    subst hp2
    have hbo : BlkOk b := hP.bl _ (lookA_mem h1)
    have hfl := h.fl
    have hvl := h.vl
    rw [List.length_cons] at hfl
    obtain ⟨q1, q2, q3, q4, q5⟩ := step_ok h1 hp1 hbo.ro h.ok h.fr h3
    obtain ⟨S1, s1, e, m1, p1, ps⟩ := stepS_ok h.m h.fr (by omega) h1 hp1 hbo.ro h.ok (by omega) h3
    exact ⟨S1, s1, vs1, fs1, e, ⟨m1, q1, q3, by omega, by omega⟩, p1, ps, g'⟩
theorem half_step2 (h : Half S j s f pd P vs fs n) (hn : n ≤ 100000) {k : Nat} {vE : List Val} (g : Rest P (k + 1) vs fs vE) :
    ∃ (S1 : Store) (s1 : Nat) (vs1 : List Val) (fs1 : Frs), s_m_step [.c j] S = .ok (.d .non) S1 ∧ Half S1 j s1 f pd P vs1 fs1 (n + 1) ∧ Pres j f S S1 ∧ (s1 = s ∨ S.length ≤ s1) ∧ Rest P k vs1 fs1 vE := by
  obtain ⟨l, hl, g⟩ := g
  cases l with
  | succ l =>
    obtain ⟨S1, s1, vs1, fs1, a, b, c, d, e⟩ := half_step hP h hn g
    exact ⟨S1, s1, vs1, fs1, a, b, c, d, l, by omega, e⟩
  | zero =>
    have hfs : fs = [] := by cases g; rfl
    subst hfs
    exact ⟨S, s, vs, [], stepS_over h.m, h.more (by omega), Pres.refl, .inl rfl, 0, Nat.zero_le _, g⟩
end
theorem Half.pres {S S1 : Store} {j s f j2 s2 f2 : Nat} {pd pd2 : D} {P P2 : Prg} {vs vs2 : List Val} {fs fs2 : Frs} {n n2 : Nat} (h : Half S j s f pd P vs fs n) (h2 : Half S j2 s2 f2 pd2 P2 vs2 fs2 n2) (hp : Pres j2 f2 S S1) (h1 : j ≠ j2) (h3 : s ≠ f2) (h4 : f ≠ f2) : Half S1 j s f pd P vs fs n := by
  have o1 := h.m.obj
  have o2 := h2.m.obj
  have a1 : j ≠ f2 := fun e => by rw [e, h2.m.frm] at o1; cases o1
  have a2 : s ≠ j2 := fun e => by have := h.m.stk; rw [e, o2] at this; cases this
  have a3 : f ≠ j2 := fun e => by have := h.m.frm; rw [e, o2] at this; cases this
  exact ⟨h.m.pres hp h1 a1 a2 h3 a3 h4, h.ok, h.fr, h.vl, h.fl⟩
theorem step_x {m : Nat} {o : M W} {env : Env} {S S1 : Store} {j s f : Nat} {pw : W} {P : Prg} {vs : List Val} {fs : Frs} (ho : o env S = .ok (.c j) S) (h : Mat S j s f pw P vs fs) (e : s_m_step [.c j] S = .ok (.d .non) S1) : expM (methM "step" s_m_step o) env S = .nx env S1 := by
  unfold expM
  rw [meth_ok ho h.obj (nm_step _ _ _), e]
  rfl
/-! ### the two machines of the count -/
noncomputable abbrev dpB : MS := (seqM (expM (methM "step" s_m_step (varM 6)))
 (ifM (tvM (binM (eqW false) (binM modW (varM 9) (conM (.int 3))) (conM (.int 0))))
 (expM (methM "step" s_m_step (varM 7)))
 passS))
abbrev DE (pd : D) (nm : List Str) (bw : W) (c : Nat) (lv : Bool) (s : Int) (j1 j2 : Nat) (x8 x9 x10 : Option W) : Env := [some (.d pd), some (.d (.lst (encS nm))), some bw, some (.d (.int c)), some (.d (.bl lv)), some (.d (.int s)), some (.c j1), some (.c j2), x8, x9, x10]
section
variable {P : Prg} (hP : PrgOk P) {pd : D} {nm : List Str} {bw : W} {c : Nat} {lv : Bool} {sm : Int} {j1 f1 j2 f2 : Nat} {x8 x10 : Option W} (hj : j1 ≠ j2) (hf : f1 ≠ f2)
include hP hj hf
theorem deep_loop1 {st : Store} (hk1 : st.length ≤ j1 ∧ st.length ≤ f1 ∧ st.length ≤ j2 ∧ st.length ≤ f2) {vE vE2 : List Val} {fE : Frs} : ∀ (ys : List D) (S : Store) (s1 s2 n : Nat) (v1 v2 : List Val) (g1 g2 : Frs) (x9 : Option W), (∀ y ∈ ys, ∃ i : Nat, y = .int (i : Int)) → Keep st S → Half S j1 s1 f1 pd P v1 g1 n → Half S j2 s2 f2 pd P v2 g2 n → s1 ≠ f2 → s2 ≠ f1 → n + ys.length ≤ 90000 → Go P ys.length v1 g1 vE fE → Rest P 9 v2 g2 vE2 →
    ∃ (S' : Store) (s1' s2' : Nat) (v2' : List Val) (g2' : Frs) (x9' : Option W), loopS (.name 9) dpB ys (DE pd nm bw c lv sm j1 j2 x8 x9 x10) S = .nx (DE pd nm bw c lv sm j1 j2 x8 x9' x10) S' ∧ Keep st S' ∧ Half S' j1 s1' f1 pd P vE fE (n + ys.length) ∧ Half S' j2 s2' f2 pd P v2' g2' (n + ys.length) ∧ s1' ≠ f2 ∧ s2' ≠ f1 ∧ Rest P 9 v2' g2' vE2
  | [], S, s1, s2, n, v1, v2, g1, g2, x9, _, hk, h1, h2, d1, d2, _, gg, rr => by
    cases gg
    exact ⟨S, s1, s2, v2, g2, x9, rfl, hk, h1, h2, d1, d2, rr⟩
  | y :: ys, S, s1, s2, n, v1, v2, g1, g2, x9, hy, hk, h1, h2, d1, d2, hn, gg, rr => by
    rw [List.length_cons] at hn
    obtain ⟨i, rfl⟩ := hy y List.mem_cons_self
    obtain ⟨S1, t1, v1', g1', e1, h1', p1, q1, gg'⟩ := half_step hP h1 (by omega) gg
    have h2' := h2.pres h1 p1 (fun e => hj e.symm) d2 (fun e => hf e.symm)
    have hk1' := p1.keep hk hk1.1 hk1.2.1
    have d1' : t1 ≠ f2 := by
      rcases q1 with e | e
      · rw [e]; exact d1
      · have := h2.m.lt.2.2; omega
    have eA : expM (methM "step" s_m_step (varM 6)) (DE pd nm bw c lv sm j1 j2 x8 (some (.d (.int i))) x10) S = .nx (DE pd nm bw c lv sm j1 j2 x8 (some (.d (.int i))) x10) S1 := step_x (m := 0) rfl h1.m e1
    by_cases hm : (i : Int) % 3 = 0
    · have hmb : ((i : Int) % 3 == 0) = true := by rw [beq_iff_eq]; exact hm
      obtain ⟨S2, t2, v2', g2', e2, h2'', p2, q2, rr'⟩ := half_step2 hP (k := 8) h2' (by omega) rr
      have h1'' := h1'.pres h2' p2 hj d1' hf
      have d2' : t2 ≠ f1 := by
        rcases q2 with e | e
        · rw [e]; exact d2
        · have := h1'.m.lt.2.2; omega
      have rr9 : Rest P 9 v2' g2' vE2 := by
        obtain ⟨l, hl, g⟩ := rr'
        exact ⟨l, by omega, g⟩
      obtain ⟨S', s1', s2', v3, g3, x9', e, r1, r2, r3, r4, r5, r6⟩ := deep_loop1 hk1 ys S2 t1 t2 (n + 1) v1' v2' g1' g2' (some (.d (.int i))) (fun z hz => hy z (List.mem_cons_of_mem _ hz)) (p2.keep hk1' hk1.2.2.1 hk1.2.2.2) h1'' h2'' d1' d2' (by omega) gg' rr9
      refine ⟨S', s1', s2', v3, g3, x9', (loopS_nx rfl ?_).trans e, r1, r2.more (by rw [List.length_cons]; omega), r3.more (by rw [List.length_cons]; omega), r4, r5, r6⟩
      refine (seq_nx eA).trans ?_
      refine (if_t (s := S1) (by simp only [szs, fnM, rawM, seqM, ifM, tvM, truM, binM, unM, appM, consA, nilA, varM, conM, retM, retN, asgM, expM, raiseM, passS, callF, app1, app2, noExc, isExc_d, isExc_c, bindS_ok, bindS_err, bindS_stuck, Res.bind_ok, Res.bind_err, Res.bind_stuck, onBl_bl, andT, orT, notT, andV, orV, notV, tupM, lstM, toDs, toD, asD_d, asD_new, frzW_d, newT, newL, slM, slW, someO, noneO, ixW, addW, subW, mulW, modW, cmpW, negW, lenW, intW, tabW, isNonB, isNonW, isNon_d, List.map_cons, List.map_nil, List.length_cons, List.length_nil, List.replicate, List.append_nil, List.nil_append, List.cons_append, List.getElem?_cons_zero, List.getElem?_cons_succ, List.set_cons_zero, List.set_cons_succ, Nat.reduceAdd, Nat.reduceSub, if_true, if_false, ite_true, ite_false, Bool.not_true, Bool.not_false, Bool.and_true, Bool.and_false, Bool.false_eq_true, reduceIte, fin_same, finE_same, fin_new, atI_0, atI_1, atI_2, eqW_ofs, look_ofs, look_nil, dspC, newDc, inW, Option.isSome_some, Option.isSome_none, itM, forM, items_dl, items_dt, methL, methD, arg0, arg1, arg2, appendW, popW, listW, get_new, set_new, isLst_new, pow109, String.reduceBEq, String.reduceEq, Bool.false_or, Bool.true_or, Bool.or_false, Bool.or_true, DE, eqW_int, hmb, show (0 : Int) < 3 by decide])).trans ?_
      exact step_x (m := 0) rfl h2'.m e2
    · have hmb : ((i : Int) % 3 == 0) = false := by rw [beq_eq_false_iff_ne]; exact hm
      obtain ⟨S', s1', s2', v3, g3, x9', e, r1, r2, r3, r4, r5, r6⟩ := deep_loop1 hk1 ys S1 t1 s2 (n + 1) v1' v2 g1' g2 (some (.d (.int i))) (fun z hz => hy z (List.mem_cons_of_mem _ hz)) hk1' h1' (h2'.more (by omega)) d1' d2 (by omega) gg' rr
      refine ⟨S', s1', s2', v3, g3, x9', (loopS_nx rfl ?_).trans e, r1, r2.more (by rw [List.length_cons]; omega), r3.more (by rw [List.length_cons]; omega), r4, r5, r6⟩
      refine (seq_nx eA).trans ?_
      exact (if_f (s := S1) (by simp only [szs, fnM, rawM, seqM, ifM, tvM, truM, binM, unM, appM, consA, nilA, varM, conM, retM, retN, asgM, expM, raiseM, passS, callF, app1, app2, noExc, isExc_d, isExc_c, bindS_ok, bindS_err, bindS_stuck, Res.bind_ok, Res.bind_err, Res.bind_stuck, onBl_bl, andT, orT, notT, andV, orV, notV, tupM, lstM, toDs, toD, asD_d, asD_new, frzW_d, newT, newL, slM, slW, someO, noneO, ixW, addW, subW, mulW, modW, cmpW, negW, lenW, intW, tabW, isNonB, isNonW, isNon_d, List.map_cons, List.map_nil, List.length_cons, List.length_nil, List.replicate, List.append_nil, List.nil_append, List.cons_append, List.getElem?_cons_zero, List.getElem?_cons_succ, List.set_cons_zero, List.set_cons_succ, Nat.reduceAdd, Nat.reduceSub, if_true, if_false, ite_true, ite_false, Bool.not_true, Bool.not_false, Bool.and_true, Bool.and_false, Bool.false_eq_true, reduceIte, fin_same, finE_same, fin_new, atI_0, atI_1, atI_2, eqW_ofs, look_ofs, look_nil, dspC, newDc, inW, Option.isSome_some, Option.isSome_none, itM, forM, items_dl, items_dt, methL, methD, arg0, arg1, arg2, appendW, popW, listW, get_new, set_new, isLst_new, pow109, String.reduceBEq, String.reduceEq, Bool.false_or, Bool.true_or, Bool.or_false, Bool.or_true, DE, eqW_int, hmb, show (0 : Int) < 3 by decide])).trans rfl
theorem deep_loop2 {st : Store} (hk1 : st.length ≤ j1 ∧ st.length ≤ f1 ∧ st.length ≤ j2 ∧ st.length ≤ f2) {v1 vE2 : List Val} {g1 : Frs} {s1 : Nat} : ∀ (ys : List D) (S : Store) (s2 n : Nat) (v2 : List Val) (g2 : Frs) (x9 : Option W), Keep st S → Half S j1 s1 f1 pd P v1 g1 n → Half S j2 s2 f2 pd P v2 g2 n → s1 ≠ f2 → s2 ≠ f1 → n + ys.length ≤ 90000 → Rest P ys.length v2 g2 vE2 →
    ∃ (S' : Store) (s2' : Nat) (x9' : Option W), loopS (.name 9) (expM (methM "step" s_m_step (varM 7))) ys (DE pd nm bw c lv sm j1 j2 x8 x9 x10) S = .nx (DE pd nm bw c lv sm j1 j2 x8 x9' x10) S' ∧ Keep st S' ∧ Half S' j1 s1 f1 pd P v1 g1 (n + ys.length) ∧ Half S' j2 s2' f2 pd P vE2 [] (n + ys.length)
  | [], S, s2, n, v2, g2, x9, hk, h1, h2, d1, d2, _, rr => by
    obtain ⟨l, hl, g⟩ := rr
    have hl0 : l = 0 := by simpa using hl
    subst hl0
    cases g
    exact ⟨S, s2, x9, rfl, hk, h1, h2⟩
  | y :: ys, S, s2, n, v2, g2, x9, hk, h1, h2, d1, d2, hn, rr => by
    rw [List.length_cons] at hn
    obtain ⟨S2, t2, v2', g2', e2, h2'', p2, q2, rr'⟩ := half_step2 hP h2 (by omega) rr
    have h1'' := h1.pres h2 p2 hj d1 hf
    have d2' : t2 ≠ f1 := by
      rcases q2 with e | e
      · rw [e]; exact d2
      · have := h1.m.lt.2.2; omega
    obtain ⟨S', s2', x9', e, r1, r2, r3⟩ := deep_loop2 hk1 ys S2 t2 (n + 1) v2' g2' (some (.d y)) (p2.keep hk hk1.2.2.1 hk1.2.2.2) (h1''.more (by omega)) h2'' d1 d2' (by omega) rr'
    exact ⟨S', s2', x9', (loopS_nx rfl (step_x (m := 0) rfl h2.m e2)).trans e, r1, r2.more (by rw [List.length_cons]; omega), r3.more (by rw [List.length_cons]; omega)⟩
end
end Py

namespace Py
open PySem L2
theorem mk_ok {st : Store} {env : Env} {a : M (List W)} {pd : D} {n : Str} {vs : List Val} {P : Prg} {b : Blk} (ha : a env st = .ok [.d pd, .d (.str n), .d (.lst (encV vs))] st) (hpd : pd = .dct (encP P)) (hb : lookA n P = some b) (hl : vs.length ≤ 900000) :
    mkM s_m_init a env st = .ok (.c st.length) (st ++ [.obj (objF (.d pd) (st.length + 1) (st.length + 2)), .lst (encV vs), .lst (encF (leaveR P [(n, 0)]))]) ∧
    Mat (st ++ [.obj (objF (.d pd) (st.length + 1) (st.length + 2)), .lst (encV vs), .lst (encF (leaveR P [(n, 0)]))]) st.length (st.length + 1) (st.length + 2) (.d pd) P vs (leaveR P [(n, 0)]) := by
  subst hpd
  obtain ⟨e, m⟩ := init_ok st (.d (.dct (encP P))) (.d (.lst (encV vs))) P n b vs rfl (fun i hi => by cases hi) hb rfl hl
  refine ⟨?_, m⟩
  unfold mkM
  simp only [ha, Res.bind_ok, noExc, isExc_d, Bool.not_false, Bool.and_true, if_true, e]
theorem tow_enc (lv : Bool) (n0 n1 : Str) : ∀ m, (towT lv n0 n1 m).reverse.map encFr = (List.replicate m [encFr (n0, 2), encFr (n1, 3 + lv.toNat)]).flatten
  | 0 => rfl
  | m + 1 => by
    have h := tow_enc lv n0 n1 m
    rw [List.replicate_succ', List.flatten_append, ← h]
    simp [towT]
theorem tow_len (lv : Bool) (n0 n1 : Str) : ∀ m, (towT lv n0 n1 m).length = 2 * m
  | 0 => rfl
  | m + 1 => by simp [towT, tow_len lv n0 n1 m]; omega
section
variable {P : Prg} {n0 n1 n2 : Str} {lv : Bool} {s : Int} (hP : PrgOk P) (hC : Cnt P n0 n1 n2 lv s)
include hP hC
theorem deep_ok (hs : 0 ≤ s ∧ s < 1000000000) {st : Store} {bw : W} {B : List Val} (hbw : asD st bw = some (.lst (encV B))) (hB : ∀ v ∈ B, v.ok) (hBl : B.length ≤ 100) {c : Nat} (hc : c ≤ 400) :
    s_deep [.d (.dct (encP P)), .d (.lst (encS [n0, n1, n2])), bw, .d (.int c), .d (.bl lv), .d (.int s)] st = .ok (.d (.bl true)) st := by
  have hxb : bw.isExc = false := noExc_of hbw
  let pd : D := .dct (encP P)
  let nm : List Str := [n0, n1, n2]
  have hlv0 : leaveR P [(n0, 0)] = [(n0, 0)] := leave_in hC.h0 (by simp)
  have happ : ∀ z : Int, encV B ++ [D.int z] = encV (B ++ [.i z]) := fun z => by simp [Val.enc]
  have hz : ∀ z : Int, (encV (B ++ [.i z])).length ≤ sizeLine := fun z => small (by rw [List.length_map, List.length_append, List.length_singleton]; omega)
  -- the machines
  obtain ⟨e1, m1⟩ := mk_ok (st := st) (env := [some (.d pd), some (.d (.lst (encS nm))), some bw, some (.d (.int c)), some (.d (.bl lv)), some (.d (.int s)), none, none, none, none, none]) (a := (consA (varM 0) (consA (binM ixW (varM 1) (conM (.int 0))) (consA (binM (addW false) (varM 2) (lstM false (consA (varM 3) nilA))) nilA)))) (pd := pd) (n := n0) (vs := B ++ [.i (c : Int)]) (P := P) (b := blkN [.plain (.copy 0), .iff n1 n2]) (by
    simp only [pd, nm]
    simp only [szs, fnM, rawM, seqM, ifM, tvM, truM, binM, unM, appM, consA, nilA, varM, conM, retM, retN, asgM, expM, raiseM, passS, callF, app1, app2, noExc, isExc_d, isExc_c, bindS_ok, bindS_err, bindS_stuck, Res.bind_ok, Res.bind_err, Res.bind_stuck, onBl_bl, andT, orT, notT, andV, orV, notV, tupM, lstM, toDs, toD, asD_d, asD_new, frzW_d, newT, newL, slM, slW, someO, noneO, ixW, addW, subW, mulW, modW, cmpW, negW, lenW, intW, tabW, isNonB, isNonW, isNon_d, List.map_cons, List.map_nil, List.length_cons, List.length_nil, List.replicate, List.append_nil, List.nil_append, List.cons_append, List.getElem?_cons_zero, List.getElem?_cons_succ, List.set_cons_zero, List.set_cons_succ, Nat.reduceAdd, Nat.reduceSub, if_true, if_false, ite_true, ite_false, Bool.not_true, Bool.not_false, Bool.and_true, Bool.and_false, Bool.false_eq_true, reduceIte, fin_same, finE_same, fin_new, atI_0, atI_1, atI_2, eqW_ofs, look_ofs, look_nil, dspC, newDc, inW, Option.isSome_some, Option.isSome_none, itM, forM, items_dl, items_dt, methL, methD, arg0, arg1, arg2, appendW, popW, listW, get_new, set_new, isLst_new, pow109, String.reduceBEq, String.reduceEq, Bool.false_or, Bool.true_or, Bool.or_false, Bool.or_true, hbw, happ, hz, szs] <;> rfl) rfl hC.h0 (by rw [List.length_append, List.length_singleton]; omega)
  rw [hlv0] at e1 m1
  let S1 : Store := st ++ [.obj (objF (.d pd) (st.length + 1) (st.length + 2)), .lst (encV (B ++ [.i (c : Int)])), .lst (encF [(n0, 0)])]
  have hS1 : S1.length = st.length + 3 := by simp [S1]
  have hbw1 : asD S1 bw = some (.lst (encV B)) := asD_app hbw _
  obtain ⟨e2, m2⟩ := mk_ok (st := S1) (env := [some (.d pd), some (.d (.lst (encS nm))), some bw, some (.d (.int c)), some (.d (.bl lv)), some (.d (.int s)), some (.c st.length), none, none, none, none]) (a := (consA (varM 0) (consA (binM ixW (varM 1) (conM (.int 0))) (consA (binM (addW false) (varM 2) (lstM false (consA (conM (.int 1)) nilA))) nilA)))) (pd := pd) (n := n0) (vs := B ++ [.i 1]) (P := P) (b := blkN [.plain (.copy 0), .iff n1 n2]) (by
    generalize S1 = S at hbw1
    simp only [pd, nm]
    simp only [szs, fnM, rawM, seqM, ifM, tvM, truM, binM, unM, appM, consA, nilA, varM, conM, retM, retN, asgM, expM, raiseM, passS, callF, app1, app2, noExc, isExc_d, isExc_c, bindS_ok, bindS_err, bindS_stuck, Res.bind_ok, Res.bind_err, Res.bind_stuck, onBl_bl, andT, orT, notT, andV, orV, notV, tupM, lstM, toDs, toD, asD_d, asD_new, frzW_d, newT, newL, slM, slW, someO, noneO, ixW, addW, subW, mulW, modW, cmpW, negW, lenW, intW, tabW, isNonB, isNonW, isNon_d, List.map_cons, List.map_nil, List.length_cons, List.length_nil, List.replicate, List.append_nil, List.nil_append, List.cons_append, List.getElem?_cons_zero, List.getElem?_cons_succ, List.set_cons_zero, List.set_cons_succ, Nat.reduceAdd, Nat.reduceSub, if_true, if_false, ite_true, ite_false, Bool.not_true, Bool.not_false, Bool.and_true, Bool.and_false, Bool.false_eq_true, reduceIte, fin_same, finE_same, fin_new, atI_0, atI_1, atI_2, eqW_ofs, look_ofs, look_nil, dspC, newDc, inW, Option.isSome_some, Option.isSome_none, itM, forM, items_dl, items_dt, methL, methD, arg0, arg1, arg2, appendW, popW, listW, get_new, set_new, isLst_new, pow109, String.reduceBEq, String.reduceEq, Bool.false_or, Bool.true_or, Bool.or_false, Bool.or_true, hbw1, happ, hz, szs] <;> rfl) rfl hC.h0 (by rw [List.length_append, List.length_singleton]; omega)
  rw [hlv0] at e2 m2
  let S2 : Store := S1 ++ [.obj (objF (.d pd) (S1.length + 1) (S1.length + 2)), .lst (encV (B ++ [.i 1])), .lst (encF [(n0, 0)])]
  have hfr : FrOk P [(n0, 0)] := fun g hg => by rw [List.mem_singleton] at hg; subst hg; exact ⟨_, hC.h0, Nat.zero_le _⟩
  have hok : ∀ z : Int, 0 ≤ z ∧ z < 1000000000 → ∀ v ∈ B ++ [Val.i z], v.ok := fun z hz v hv => by
    rcases List.mem_append.mp hv with h | h
    · exact hB v h
    · rw [List.mem_singleton] at h; subst h; exact hz
  have H1 : Half S2 st.length (st.length + 1) (st.length + 2) pd P (B ++ [.i (c : Int)]) [(n0, 0)] 101 := ⟨m1.app _, hok _ (by omega), hfr, by rw [List.length_append, List.length_singleton]; omega, by simp⟩
  have H2 : Half S2 S1.length (S1.length + 1) (S1.length + 2) pd P (B ++ [.i 1]) [(n0, 0)] 101 := ⟨m2, hok _ (by omega), hfr, by rw [List.length_append, List.length_singleton]; omega, by simp⟩
  let T : Nat := (5 + lv.toNat) * c
  have hT : T ≤ 2400 := by
    have h1 : 5 + lv.toNat ≤ 6 := by cases lv <;> decide
    have := Nat.mul_le_mul h1 hc
    exact this
  have go1 := cnt_deep hC (by omega) B [] c (Nat.le_refl c)
  rw [Nat.sub_self, List.append_nil] at go1
  replace go1 : Go P ((5 + lv.toNat) * c) (B ++ [.i (c : Int)]) [(n0, 0)] (B ++ lefT lv c c ++ [.i 0]) ((n0, 0) :: towT lv n0 n1 c) := go1
  have go2 := cnt_all hC 1 (by omega) B []
  obtain ⟨S3, s1', s2', v2', g2', x9, eL1, k3, H1', H2', d1, d2, rr⟩ := deep_loop1 (pd := pd) (nm := nm) (bw := bw) (c := c) (lv := lv) (sm := s) (j1 := st.length) (f1 := st.length + 2) (j2 := S1.length) (f2 := S1.length + 2) (x8 := some (.d (.lst []))) (x10 := none) hP (by omega) (by omega) (st := st) ⟨by omega, by omega, by omega, by omega⟩ (uptoD T) S2 (st.length + 1) (S1.length + 1) 101 (B ++ [.i (c : Int)]) (B ++ [.i 1]) [(n0, 0)] [(n0, 0)] none (fun y hy => by obtain ⟨i, _, rfl⟩ := mem_upto hy; exact ⟨i, rfl⟩) (Keep.app.trans Keep.app) H1 H2 (by omega) (by omega) (by simp [uptoD]; omega) (by
    have : (uptoD T).length = T := by simp [uptoD]
    rw [this]; exact go1) ⟨9, Nat.le_refl _, go2⟩
  obtain ⟨S4, s2'', x9', eL2, k4, H1'', H2''⟩ := deep_loop2 (pd := pd) (nm := nm) (bw := bw) (c := c) (lv := lv) (sm := s) (j1 := st.length) (f1 := st.length + 2) (j2 := S1.length) (f2 := S1.length + 2) (x8 := some (.d (.lst []))) (x10 := none) hP (by omega) (by omega) (st := st) ⟨by omega, by omega, by omega, by omega⟩ (uptoD 9) S3 s2' (101 + (uptoD T).length) v2' g2' x9 k3 H1' H2' d1 d2 (by simp [uptoD]; omega) rr
  -- what is looked at
  have hbw4 := k4.asD hbw
  have r1 : resT lv s 1 = if lv = true then 1 else s := by
    cases lv
    · show ((1 : Nat) : Int) * s % 1000000000 = s
      rw [show ((1 : Nat) : Int) = 1 from rfl, Int.one_mul]
      exact Int.emod_eq_of_lt hs.1 hs.2
    · rfl
  have hov2 := over_ok H2''.m
  have hmo2 : ∀ x8 x9 x10, methM "over" s_m_over (varM 7) (DE pd nm bw c lv s st.length S1.length x8 x9 x10) S4 = .ok (.d (.bl true)) S4 := fun x8 x9 x10 => by
    rw [meth_ok (st := S4) (j := S1.length) rfl H2''.m.obj (nm_over _ _ _), hov2]; rfl
  have hov1 := over_ok H1''.m
  have hmo1 : ∀ x8 x9 x10, methM "over" s_m_over (varM 6) (DE pd nm bw c lv s st.length S1.length x8 x9 x10) S4 = .ok (.d (.bl false)) S4 := fun x8 x9 x10 => by
    rw [meth_ok (st := S4) (j := st.length) rfl H1''.m.obj (nm_over _ _ _), hov1]; rfl
  have hv2 := H2''.ok
  have hal2 := alike_ok (.c s2'') (.d (.lst (encV (B ++ [.i (resT lv s 1)])))) (B ++ [.i (resT lv s 1)]) S4 H2''.m.aS rfl (fun v hv => (hv2 v hv).fine) (by rw [List.length_append, List.length_singleton]; omega)
  have hlen9 : (uptoD 9).length = 9 := by simp [uptoD]
  have hlenT : (uptoD T).length = T := by simp [uptoD]
  have hvl1 := H1''.vl
  rw [hlen9, hlenT] at hvl1
  have hal1 := alike_ok (.c s1') (.d (.lst (encV (B ++ lefT lv c c ++ [.i 0])))) (B ++ lefT lv c c ++ [.i 0]) S4 H1''.m.aS rfl (fun v hv => (H1''.ok v hv).fine) (by omega)
  have hfS2 := H2''.m.fS
  have hfS1 := H1''.m.fS
  have hfF1 := H1''.m.fF
  have haF1 := H1''.m.aF
  have hnames : ∀ g ∈ (n0, 0) :: towT lv n0 n1 c, PyData.strOk g.1 = true := fr_names hP H1''.fr
  have hefd := encF_eq hnames
  -- the due
  have hi : (3 : Int) + (if lv = true then 1 else 0) = ((3 + lv.toNat : Nat) : Int) := by cases lv <;> rfl
  have hT' : ((5 : Int) + (if lv = true then 1 else 0)) * (c : Int) = ((T : Nat) : Int) := by
    simp only [T]
    rw [Int.natCast_mul]
    congr 1
    cases lv <;> rfl
  have hm5 : mulOk ((5 : Int) + (if lv = true then 1 else 0)) (c : Int) = true := mulOk_r (by omega) (by omega)
  have hpick : atI [D.int s, D.int 1] (if lv = true then 1 else 0) = some (.int (resT lv s 1)) := by rw [r1]; cases lv <;> rfl
  have hreps : reps (c : Int) [D.tup [.str n0, .int 2], D.tup [.str n1, .int ((3 + lv.toNat : Nat) : Int)]] = (towT lv n0 n1 c).reverse.map encFr := by
    unfold reps; rw [Int.toNat_natCast, tow_enc]; rfl
  have hrok : repOk (c : Int) = true := repOk_nat (by omega)
  have hfin : (towT lv n0 n1 c).reverse.map encFr ++ [D.tup [.str n0, .int 0]] = encF ((n0, 0) :: towT lv n0 n1 c) := by rw [encF_cons]; rfl
  have hz1 : ((towT lv n0 n1 c).reverse.map encFr).length ≤ sizeLine := small (by rw [List.length_map, List.length_reverse, tow_len]; omega)
  have hz2 : (encF ((n0, 0) :: towT lv n0 n1 c)).length ≤ sizeLine := small (by rw [List.length_map, List.length_reverse, List.length_cons, tow_len]; omega)
  let EE (x8 x10 : Option W) : Env := DE pd nm bw c lv s st.length S1.length x8 x9' x10
  -- what is left
  have hleft : (ifM (truM (varM 4))
     (asgM 8 (lcM false (rngM (varM 3)) 9 yesT (binM subW (varM 3) (varM 9))))
     passS) (EE (some (.d (.lst []))) none) S4 = .nx (EE (some (.d (.lst (encV (lefT lv c c))))) none) S4 := by
    cases lv with
    | false => exact (if_f (s := S4) (by simp only [szs, fnM, rawM, seqM, ifM, tvM, truM, binM, unM, appM, consA, nilA, varM, conM, retM, retN, asgM, expM, raiseM, passS, callF, app1, app2, noExc, isExc_d, isExc_c, bindS_ok, bindS_err, bindS_stuck, Res.bind_ok, Res.bind_err, Res.bind_stuck, onBl_bl, andT, orT, notT, andV, orV, notV, tupM, lstM, toDs, toD, asD_d, asD_new, frzW_d, newT, newL, slM, slW, someO, noneO, ixW, addW, subW, mulW, modW, cmpW, negW, lenW, intW, tabW, isNonB, isNonW, isNon_d, List.map_cons, List.map_nil, List.length_cons, List.length_nil, List.replicate, List.append_nil, List.nil_append, List.cons_append, List.getElem?_cons_zero, List.getElem?_cons_succ, List.set_cons_zero, List.set_cons_succ, Nat.reduceAdd, Nat.reduceSub, if_true, if_false, ite_true, ite_false, Bool.not_true, Bool.not_false, Bool.and_true, Bool.and_false, Bool.false_eq_true, reduceIte, fin_same, finE_same, fin_new, atI_0, atI_1, atI_2, eqW_ofs, look_ofs, look_nil, dspC, newDc, inW, Option.isSome_some, Option.isSome_none, itM, forM, items_dl, items_dt, methL, methD, arg0, arg1, arg2, appendW, popW, listW, get_new, set_new, isLst_new, pow109, String.reduceBEq, String.reduceEq, Bool.false_or, Bool.true_or, Bool.or_false, Bool.or_true, EE, DE, truM])).trans rfl
    | true =>
      refine (if_t (s := S4) (by simp only [szs, fnM, rawM, seqM, ifM, tvM, truM, binM, unM, appM, consA, nilA, varM, conM, retM, retN, asgM, expM, raiseM, passS, callF, app1, app2, noExc, isExc_d, isExc_c, bindS_ok, bindS_err, bindS_stuck, Res.bind_ok, Res.bind_err, Res.bind_stuck, onBl_bl, andT, orT, notT, andV, orV, notV, tupM, lstM, toDs, toD, asD_d, asD_new, frzW_d, newT, newL, slM, slW, someO, noneO, ixW, addW, subW, mulW, modW, cmpW, negW, lenW, intW, tabW, isNonB, isNonW, isNon_d, List.map_cons, List.map_nil, List.length_cons, List.length_nil, List.replicate, List.append_nil, List.nil_append, List.cons_append, List.getElem?_cons_zero, List.getElem?_cons_succ, List.set_cons_zero, List.set_cons_succ, Nat.reduceAdd, Nat.reduceSub, if_true, if_false, ite_true, ite_false, Bool.not_true, Bool.not_false, Bool.and_true, Bool.and_false, Bool.false_eq_true, reduceIte, fin_same, finE_same, fin_new, atI_0, atI_1, atI_2, eqW_ofs, look_ofs, look_nil, dspC, newDc, inW, Option.isSome_some, Option.isSome_none, itM, forM, items_dl, items_dt, methL, methD, arg0, arg1, arg2, appendW, popW, listW, get_new, set_new, isLst_new, pow109, String.reduceBEq, String.reduceEq, Bool.false_or, Bool.true_or, Bool.or_false, Bool.or_true, EE, DE, truM])).trans ?_
      have hr := rng_ok (varM 3) (EE (some (.d (.lst []))) none) S4 S4 c rfl (by omega)
      have hl : lcLoop 9 yesT (binM subW (varM 3) (varM 9)) (uptoD c) [] (EE (some (.d (.lst []))) none) S4 = .ok (encV (lefT true c c)) S4 := by
        rw [lcLoop_map (fun x => match x with | .int i => .int ((c : Int) - i) | _ => .non) (uptoD c) (fun x hx => by
          obtain ⟨i, hi, rfl⟩ := mem_upto hx
          simp only [szs, fnM, rawM, seqM, ifM, tvM, truM, binM, unM, appM, consA, nilA, varM, conM, retM, retN, asgM, expM, raiseM, passS, callF, app1, app2, noExc, isExc_d, isExc_c, bindS_ok, bindS_err, bindS_stuck, Res.bind_ok, Res.bind_err, Res.bind_stuck, onBl_bl, andT, orT, notT, andV, orV, notV, tupM, lstM, toDs, toD, asD_d, asD_new, frzW_d, newT, newL, slM, slW, someO, noneO, ixW, addW, subW, mulW, modW, cmpW, negW, lenW, intW, tabW, isNonB, isNonW, isNon_d, List.map_cons, List.map_nil, List.length_cons, List.length_nil, List.replicate, List.append_nil, List.nil_append, List.cons_append, List.getElem?_cons_zero, List.getElem?_cons_succ, List.set_cons_zero, List.set_cons_succ, Nat.reduceAdd, Nat.reduceSub, if_true, if_false, ite_true, ite_false, Bool.not_true, Bool.not_false, Bool.and_true, Bool.and_false, Bool.false_eq_true, reduceIte, fin_same, finE_same, fin_new, atI_0, atI_1, atI_2, eqW_ofs, look_ofs, look_nil, dspC, newDc, inW, Option.isSome_some, Option.isSome_none, itM, forM, items_dl, items_dt, methL, methD, arg0, arg1, arg2, appendW, popW, listW, get_new, set_new, isLst_new, pow109, String.reduceBEq, String.reduceEq, Bool.false_or, Bool.true_or, Bool.or_false, Bool.or_true, EE, DE]) (small (by simp [uptoD]; omega))]
        congr 1
        simp only [uptoD, lefT, if_true, List.map_map]
        refine List.map_congr_left fun i hi => ?_
        have := List.mem_range.mp hi
        show D.int ((c : Int) - (i : Int)) = D.int ((c - i : Nat) : Int)
        congr 1
        omega
      exact asg_ok (lcm_ok hr hl (small (by simp [lefT]; omega)))
  have hbl : (encV B ++ encV (lefT lv c c)) = encV (B ++ lefT lv c c) := by simp
  have hbl2 : (encV (B ++ lefT lv c c) ++ [D.int 0]) = encV (B ++ lefT lv c c ++ [.i 0]) := by simp [Val.enc]
  have hll : (lefT lv c c).length ≤ c := by cases lv <;> simp [lefT]
  have hz3 : (encV (B ++ lefT lv c c)).length ≤ sizeLine := small (by rw [List.length_map, List.length_append]; omega)
  have hz4 : (encV (B ++ lefT lv c c ++ [.i 0])).length ≤ sizeLine := small (by rw [List.length_map, List.length_append, List.length_append, List.length_singleton]; omega)
  unfold s_deep
  refine (fnM_ret (st' := S4) rfl ?_).trans (fin_keep k4 _)
  unfold b_deep
  refine (seq_nx (e := [some (.d pd), some (.d (.lst (encS nm))), some bw, some (.d (.int c)), some (.d (.bl lv)), some (.d (.int s)), some (.c st.length), none, none, none, none]) (s := S1) (asg_ok e1)).trans ?_
  refine (seq_nx (e := [some (.d pd), some (.d (.lst (encS nm))), some bw, some (.d (.int c)), some (.d (.bl lv)), some (.d (.int s)), some (.c st.length), some (.c S1.length), none, none, none]) (s := S2) (asg_ok e2)).trans ?_
  refine (seq_nx (e := DE pd nm bw c lv s st.length S1.length (some (.d (.lst []))) none none) (s := S2) (by
    generalize S2 = S
    simp only [szs, fnM, rawM, seqM, ifM, tvM, truM, binM, unM, appM, consA, nilA, varM, conM, retM, retN, asgM, expM, raiseM, passS, callF, app1, app2, noExc, isExc_d, isExc_c, bindS_ok, bindS_err, bindS_stuck, Res.bind_ok, Res.bind_err, Res.bind_stuck, onBl_bl, andT, orT, notT, andV, orV, notV, tupM, lstM, toDs, toD, asD_d, asD_new, frzW_d, newT, newL, slM, slW, someO, noneO, ixW, addW, subW, mulW, modW, cmpW, negW, lenW, intW, tabW, isNonB, isNonW, isNon_d, List.map_cons, List.map_nil, List.length_cons, List.length_nil, List.replicate, List.append_nil, List.nil_append, List.cons_append, List.getElem?_cons_zero, List.getElem?_cons_succ, List.set_cons_zero, List.set_cons_succ, Nat.reduceAdd, Nat.reduceSub, if_true, if_false, ite_true, ite_false, Bool.not_true, Bool.not_false, Bool.and_true, Bool.and_false, Bool.false_eq_true, reduceIte, fin_same, finE_same, fin_new, atI_0, atI_1, atI_2, eqW_ofs, look_ofs, look_nil, dspC, newDc, inW, Option.isSome_some, Option.isSome_none, itM, forM, items_dl, items_dt, methL, methD, arg0, arg1, arg2, appendW, popW, listW, get_new, set_new, isLst_new, pow109, String.reduceBEq, String.reduceEq, Bool.false_or, Bool.true_or, Bool.or_false, Bool.or_true, DE] <;> rfl)).trans ?_
  refine (seq_nx (e := DE pd nm bw c lv s st.length S1.length (some (.d (.lst []))) x9 none) (s := S3) (by
    unfold forM
    rw [rng_ok _ _ _ S2 T (by
      generalize S2 = S
      simp only [szs, fnM, rawM, seqM, ifM, tvM, truM, binM, unM, appM, consA, nilA, varM, conM, retM, retN, asgM, expM, raiseM, passS, callF, app1, app2, noExc, isExc_d, isExc_c, bindS_ok, bindS_err, bindS_stuck, Res.bind_ok, Res.bind_err, Res.bind_stuck, onBl_bl, andT, orT, notT, andV, orV, notV, tupM, lstM, toDs, toD, asD_d, asD_new, frzW_d, newT, newL, slM, slW, someO, noneO, ixW, addW, subW, mulW, modW, cmpW, negW, lenW, intW, tabW, isNonB, isNonW, isNon_d, List.map_cons, List.map_nil, List.length_cons, List.length_nil, List.replicate, List.append_nil, List.nil_append, List.cons_append, List.getElem?_cons_zero, List.getElem?_cons_succ, List.set_cons_zero, List.set_cons_succ, Nat.reduceAdd, Nat.reduceSub, if_true, if_false, ite_true, ite_false, Bool.not_true, Bool.not_false, Bool.and_true, Bool.and_false, Bool.false_eq_true, reduceIte, fin_same, finE_same, fin_new, atI_0, atI_1, atI_2, eqW_ofs, look_ofs, look_nil, dspC, newDc, inW, Option.isSome_some, Option.isSome_none, itM, forM, items_dl, items_dt, methL, methD, arg0, arg1, arg2, appendW, popW, listW, get_new, set_new, isLst_new, pow109, String.reduceBEq, String.reduceEq, Bool.false_or, Bool.true_or, Bool.or_false, Bool.or_true, DE, hm5, hT']) (by omega)]
    exact eL1)).trans ?_
  refine (seq_nx (e := EE (some (.d (.lst []))) none) (s := S4) (by
    unfold forM
    rw [rng_ok (conM (.int 9)) _ S3 S3 9 rfl (by omega)]
    exact eL2)).trans ?_
  refine (seq_nx (e := EE (some (.d (.lst []))) none) (s := S4) (by
    refine (if_f (s := S4) ?_).trans rfl
    have h1 : tvM (methM "over" s_m_over (varM 7)) (EE (some (.d (.lst []))) none) S4 = .ok true S4 := by
      unfold tvM
      rw [hmo2]; rfl
    have h2 : tvM (callF s_alike (consA (unM (fldW "stack") (varM 7)) (consA (binM (addW false) (varM 2) (lstM false (consA (binM ixW (lstM false (consA (varM 5) (consA (conM (.int 1)) nilA))) (appM (app1 intW) (consA (varM 4) nilA))) nilA))) nilA))) (EE (some (.d (.lst []))) none) S4 = .ok true S4 := by
      generalize S4 = S at hbw4 hfS2 hal2
      simp only [szs, fnM, rawM, seqM, ifM, tvM, truM, binM, unM, appM, consA, nilA, varM, conM, retM, retN, asgM, expM, raiseM, passS, callF, app1, app2, noExc, isExc_d, isExc_c, bindS_ok, bindS_err, bindS_stuck, Res.bind_ok, Res.bind_err, Res.bind_stuck, onBl_bl, andT, orT, notT, andV, orV, notV, tupM, lstM, toDs, toD, asD_d, asD_new, frzW_d, newT, newL, slM, slW, someO, noneO, ixW, addW, subW, mulW, modW, cmpW, negW, lenW, intW, tabW, isNonB, isNonW, isNon_d, List.map_cons, List.map_nil, List.length_cons, List.length_nil, List.replicate, List.append_nil, List.nil_append, List.cons_append, List.getElem?_cons_zero, List.getElem?_cons_succ, List.set_cons_zero, List.set_cons_succ, Nat.reduceAdd, Nat.reduceSub, if_true, if_false, ite_true, ite_false, Bool.not_true, Bool.not_false, Bool.and_true, Bool.and_false, Bool.false_eq_true, reduceIte, fin_same, finE_same, fin_new, atI_0, atI_1, atI_2, eqW_ofs, look_ofs, look_nil, dspC, newDc, inW, Option.isSome_some, Option.isSome_none, itM, forM, items_dl, items_dt, methL, methD, arg0, arg1, arg2, appendW, popW, listW, get_new, set_new, isLst_new, pow109, String.reduceBEq, String.reduceEq, Bool.false_or, Bool.true_or, Bool.or_false, Bool.or_true, EE, DE, hfS2, hbw4, hpick, happ, hz, hal2, szs]
    unfold orT notT
    simp only [h1, h2, Res.bind_ok, Bool.not_true, Bool.false_eq_true, if_false])).trans ?_
  refine (seq_nx hleft).trans ?_
  refine (seq_nx (e := EE (some (.d (.lst (encV (lefT lv c c))))) (some (.d (.lst (encF ((n0, 0) :: towT lv n0 n1 c)))))) (s := S4) (by
    generalize S4 = S
    simp only [nm, EE]
    simp only [szs, fnM, rawM, seqM, ifM, tvM, truM, binM, unM, appM, consA, nilA, varM, conM, retM, retN, asgM, expM, raiseM, passS, callF, app1, app2, noExc, isExc_d, isExc_c, bindS_ok, bindS_err, bindS_stuck, Res.bind_ok, Res.bind_err, Res.bind_stuck, onBl_bl, andT, orT, notT, andV, orV, notV, tupM, lstM, toDs, toD, asD_d, asD_new, frzW_d, newT, newL, slM, slW, someO, noneO, ixW, addW, subW, mulW, modW, cmpW, negW, lenW, intW, tabW, isNonB, isNonW, isNon_d, List.map_cons, List.map_nil, List.length_cons, List.length_nil, List.replicate, List.append_nil, List.nil_append, List.cons_append, List.getElem?_cons_zero, List.getElem?_cons_succ, List.set_cons_zero, List.set_cons_succ, Nat.reduceAdd, Nat.reduceSub, if_true, if_false, ite_true, ite_false, Bool.not_true, Bool.not_false, Bool.and_true, Bool.and_false, Bool.false_eq_true, reduceIte, fin_same, finE_same, fin_new, atI_0, atI_1, atI_2, eqW_ofs, look_ofs, look_nil, dspC, newDc, inW, Option.isSome_some, Option.isSome_none, itM, forM, items_dl, items_dt, methL, methD, arg0, arg1, arg2, appendW, popW, listW, get_new, set_new, isLst_new, pow109, String.reduceBEq, String.reduceEq, Bool.false_or, Bool.true_or, Bool.or_false, Bool.or_true, DE, hi, hrok, hreps, hz1, hfin, hz2, szs])).trans ?_
  -- the end
  have f1 : binM (eqW false) (unM (fldW "frames") (varM 6)) (varM 10) (EE (some (.d (.lst (encV (lefT lv c c))))) (some (.d (.lst (encF ((n0, 0) :: towT lv n0 n1 c)))))) S4 = .ok (.d (.bl true)) S4 := by
    generalize S4 = S at hfF1 haF1
    simp only [binM, unM, EE, DE, varM, List.getElem?_cons_zero, List.getElem?_cons_succ, Res.bind_ok, hfF1, eqW, haF1, asD_d, hefd, Bool.false_eq_true, if_false]
  have f3 : callF s_alike (consA (unM (fldW "stack") (varM 6)) (consA (binM (addW false) (binM (addW false) (varM 2) (varM 8)) (lstM false (consA (conM (.int 0)) nilA))) nilA)) (EE (some (.d (.lst (encV (lefT lv c c))))) (some (.d (.lst (encF ((n0, 0) :: towT lv n0 n1 c)))))) S4 = .ok (.d (.bl true)) S4 := by
    generalize S4 = S at hfS1 hbw4 hal1
    simp only [szs, fnM, rawM, seqM, ifM, tvM, truM, binM, unM, appM, consA, nilA, varM, conM, retM, retN, asgM, expM, raiseM, passS, callF, app1, app2, noExc, isExc_d, isExc_c, bindS_ok, bindS_err, bindS_stuck, Res.bind_ok, Res.bind_err, Res.bind_stuck, onBl_bl, andT, orT, notT, andV, orV, notV, tupM, lstM, toDs, toD, asD_d, asD_new, frzW_d, newT, newL, slM, slW, someO, noneO, ixW, addW, subW, mulW, modW, cmpW, negW, lenW, intW, tabW, isNonB, isNonW, isNon_d, List.map_cons, List.map_nil, List.length_cons, List.length_nil, List.replicate, List.append_nil, List.nil_append, List.cons_append, List.getElem?_cons_zero, List.getElem?_cons_succ, List.set_cons_zero, List.set_cons_succ, Nat.reduceAdd, Nat.reduceSub, if_true, if_false, ite_true, ite_false, Bool.not_true, Bool.not_false, Bool.and_true, Bool.and_false, Bool.false_eq_true, reduceIte, fin_same, finE_same, fin_new, atI_0, atI_1, atI_2, eqW_ofs, look_ofs, look_nil, dspC, newDc, inW, Option.isSome_some, Option.isSome_none, itM, forM, items_dl, items_dt, methL, methD, arg0, arg1, arg2, appendW, popW, listW, get_new, set_new, isLst_new, pow109, String.reduceBEq, String.reduceEq, Bool.false_or, Bool.true_or, Bool.or_false, Bool.or_true, EE, DE, hfS1, hbw4, hbl, hz3, hbl2, hz4, hal1, szs]
  have f2 : notV (methM "over" s_m_over (varM 6)) (EE (some (.d (.lst (encV (lefT lv c c))))) (some (.d (.lst (encF ((n0, 0) :: towT lv n0 n1 c)))))) S4 = .ok (.d (.bl true)) S4 := by
    unfold notV
    rw [show methM "over" s_m_over (varM 6) (EE (some (.d (.lst (encV (lefT lv c c))))) (some (.d (.lst (encF ((n0, 0) :: towT lv n0 n1 c)))))) S4 = _ from hmo1 _ _ _]
    rfl
  generalize EE (some (.d (.lst (encV (lefT lv c c))))) (some (.d (.lst (encF ((n0, 0) :: towT lv n0 n1 c))))) = env at f1 f2 f3 ⊢
  simp only [retM, andV, f1, f2, f3, Res.bind_ok, onBl_bl, if_true, bindS_ok]
end
end Py

namespace Py
open PySem L2
theorem str_list (a b : Str) : (a ++ b).cps.toList = a.cps.toList ++ b.cps.toList := by
  show (a.cps ++ b.cps).toList = _
  simp
theorem str_mid {b x y : Str} (h : b ++ x ++ b = b ++ y ++ b) : x = y := by
  have h1 := congrArg (fun s : Str => s.cps.toList) h
  simp only [str_list] at h1
  have h2 := List.append_cancel_left (List.append_cancel_right h1)
  cases x; cases y
  congr 1
  exact Array.toList_inj.mp h2
theorem value0 (ns : List Int) (t : Int) (kd : Kd) (tl : Store) (h0 : 0 ≤ t) (h1 : t ≤ 900000) : ∃ v : Val, v.ok ∧ v.kd = kd ∧ s_value [.d (.scr ns), .c 0, .d kd.enc] (tc t :: tl) = .ok (.d v.enc) (tc (t + 2) :: tl) :=
  value_ok ns 0 t kd (tc t :: tl) (by simp) h0 (by omega)
abbrev cntP (n0 n1 n2 : Str) (lv : Bool) (s : Int) : Prg := [(n2, blkN []), (n0, blkN [.plain (.copy 0), .iff n1 n2]), (n1, blkN (rowsY lv n0 s))]
/-- a beginning, of no sign, one, or fifty -/
theorem begin_word (ns : List Int) (t : Int) (tl : Store) (h0 : 0 ≤ t) (h1 : t ≤ 900000) : ∃ bg : Str, PyData.strOk bg = true ∧ bg.length ≤ 50 ∧ ∀ (env : Env), env[0]? = some (some (.d (.scr ns))) → env[1]? = some (some (.c 0)) →
    callF s_words (consA (callF s_draw (consA (varM 0) (consA (varM 1) (consA (conM (.int 1000000)) nilA)))) (consA (binM ixW (lstM false (consA (conM (.int 0)) (consA (conM (.int 1)) (consA (conM (.int 50)) nilA)))) (callF s_draw (consA (varM 0) (consA (varM 1) (consA (conM (.int 3)) nilA))))) nilA)) env (tc t :: tl) = .ok (.d (.str bg)) (tc (t + 1 + 1) :: tl) := by
  obtain ⟨a, a0, a1, ea⟩ := draw0 ns t 1000000 tl h0 (by omega) (by decide)
  obtain ⟨b, b0, b1, eb⟩ := draw0 ns (t + 1) 3 tl (by omega) (by omega) (by decide)
  obtain ⟨z, hz, ez⟩ := atI_in D.int [0, 1, 50] b b0 b1
  simp only [List.map_cons, List.map_nil] at ez
  have hz2 : 0 ≤ z ∧ z ≤ 50 := by
    simp only [List.mem_cons, List.not_mem_nil, or_false] at hz
    rcases hz with h | h | h <;> omega
  obtain ⟨bg, g1, g2, eg⟩ := words_ok a z.toNat (tc (t + 1 + 1) :: tl) (by omega)
  rw [Int.toNat_of_nonneg hz2.1] at eg
  refine ⟨bg, g1, by omega, fun env h0 h1 => ?_⟩
  simp only [szs, fnM, rawM, seqM, ifM, tvM, truM, binM, unM, appM, consA, nilA, varM, conM, retM, retN, asgM, expM, raiseM, passS, callF, app1, app2, noExc, isExc_d, isExc_c, bindS_ok, bindS_err, bindS_stuck, Res.bind_ok, Res.bind_err, Res.bind_stuck, onBl_bl, andT, orT, notT, andV, orV, notV, tupM, lstM, toDs, toD, asD_d, asD_new, frzW_d, newT, newL, slM, slW, someO, noneO, ixW, addW, subW, mulW, modW, cmpW, negW, lenW, intW, tabW, isNonB, isNonW, isNon_d, List.map_cons, List.map_nil, List.length_cons, List.length_nil, List.replicate, List.append_nil, List.nil_append, List.cons_append, List.getElem?_cons_zero, List.getElem?_cons_succ, List.set_cons_zero, List.set_cons_succ, Nat.reduceAdd, Nat.reduceSub, if_true, if_false, ite_true, ite_false, Bool.not_true, Bool.not_false, Bool.and_true, Bool.and_false, Bool.false_eq_true, reduceIte, fin_same, finE_same, fin_new, atI_0, atI_1, atI_2, eqW_ofs, look_ofs, look_nil, dspC, newDc, inW, Option.isSome_some, Option.isSome_none, itM, forM, items_dl, items_dt, methL, methD, arg0, arg1, arg2, appendW, popW, listW, get_new, set_new, isLst_new, pow109, String.reduceBEq, String.reduceEq, Bool.false_or, Bool.true_or, Bool.or_false, Bool.or_true, h0, h1, ea, eb, ez, eg, szs]
theorem nm_mid {bg x : Str} (hb : PyData.strOk bg = true) (hl : bg.length ≤ 50) (hx : PyData.strOk x = true) (h1 : 1 ≤ x.length) (h2 : x.length ≤ 100) : NmOk (bg ++ x ++ bg) := by
  refine ⟨strOk_append (strOk_append hb hx) hb, ?_, ?_⟩ <;> (rw [PySem.Str.length_append, PySem.Str.length_append]; omega)
theorem cnt_prg {n0 n1 n2 : Str} {lv : Bool} {s : Int} (h0 : NmOk n0) (h1 : NmOk n1) (h2 : NmOk n2) (d1 : n0 ≠ n1) (d2 : n0 ≠ n2) (d3 : n1 ≠ n2) (hs : 0 ≤ s ∧ s < 1000000000) : GoodP (cntP n0 n1 n2 lv s) ∧ Cnt (cntP n0 n1 n2 lv s) n0 n1 n2 lv s := by
  have hnd : ((cntP n0 n1 n2 lv s).map (·.1)).Nodup := by
    simp [cntP, d1, d2, d3, Ne.symm d1, Ne.symm d2, Ne.symm d3]
  have hC : Cnt (cntP n0 n1 n2 lv s) n0 n1 n2 lv s := ⟨lookA_of hnd (by simp [cntP]), lookA_of hnd (by simp [cntP]), lookA_of hnd (by simp [cntP])⟩
  have ryl : (rowsY lv n0 s).length = 5 := by cases lv <;> rfl
  have t0 : telP (cntP n0 n1 n2 lv s) n0 = some ([.num], [.num]) := by unfold telP; rw [hC.h0]; rfl
  have t1 : telP (cntP n0 n1 n2 lv s) n1 = some ([.num], [.num]) := by unfold telP; rw [hC.h1]; rfl
  have t2 : telP (cntP n0 n1 n2 lv s) n2 = some ([.num], [.num]) := by unfold telP; rw [hC.h2]; rfl
  have each : ∀ (p : Str × Blk → Prop), p (n2, blkN []) → p (n0, blkN [.plain (.copy 0), .iff n1 n2]) → p (n1, blkN (rowsY lv n0 s)) → ∀ q ∈ cntP n0 n1 n2 lv s, p q := fun p a b c q hq => by
    simp only [cntP, List.mem_cons, List.not_mem_nil, or_false] at hq
    rcases hq with rfl | rfl | rfl <;> assumption
  refine ⟨⟨⟨hnd, each (fun q => NmOk q.1) h2 h0 h1, each (fun q => BlkOk q.2) ?_ ?_ ?_⟩, by simp [cntP], by simp [cntP], each (fun q => q.2.rows.length ≤ 800) (by simp) (by simp) (by simp [ryl]), each (fun q => GoodB (telP (cntP n0 n1 n2 lv s)) q.2) rfl ?_ ?_⟩, hC⟩
  · exact ⟨by simp, by simp, by simp, by simp⟩
  · refine ⟨by simp, by simp, by simp, fun r hr => ?_⟩
    simp only [List.mem_cons, List.not_mem_nil, or_false] at hr
    rcases hr with rfl | rfl
    · exact Nat.zero_le _
    · exact ⟨h1.ok, h2.ok⟩
  · refine ⟨by simp, by simp, by simp [ryl], fun r hr => ?_⟩
    have n9 : (Rw.plain (.num 999999999)).ok := ⟨by decide, by decide⟩
    have na : (Rw.plain (.op .add)).ok := trivial
    cases lv with
    | true =>
      simp only [rowsY, if_true, List.mem_cons, List.not_mem_nil, or_false] at hr
      rcases hr with rfl | rfl | rfl | rfl | rfl
      · exact Nat.zero_le _
      · exact n9
      · exact na
      · exact h0.ok
      · exact na
    | false =>
      simp only [rowsY, Bool.false_eq_true, if_false, List.mem_cons, List.not_mem_nil, or_false] at hr
      rcases hr with rfl | rfl | rfl | rfl | rfl
      · exact n9
      · exact na
      · exact h0.ok
      · exact hs
      · exact na
  · show runK _ [.num] [.plain (.copy 0), .iff n1 n2] = some [.num]
    have a1 : need [Kd.num] (Row.copy 0).wants = none := by decide
    have a2 : need [Kd.num, .num] [some .num] = none := by decide
    have a3 : calledK [Kd.num] [.num] [.num] = .ok [.num] := called_app [] [.num] [.num]
    simp only [runK, nextK, a1, show plainK (.copy 0) [Kd.num] = [.num, .num] from rfl, a2, t1, t2, and_self, if_true, show ([Kd.num, Kd.num]).dropLast = [.num] from rfl, a3]
  · show runK _ [.num] (rowsY lv n0 s) = some [.num]
    have a3 : calledK [Kd.num] [.num] [.num] = .ok [.num] := called_app [] [.num] [.num]
    have a4 : calledK [Kd.num, .num] [.num] [.num] = .ok [.num, .num] := called_app [.num] [.num] [.num]
    cases lv with
    | true =>
      have b1 : need [Kd.num] (Row.copy 0).wants = none := by decide
      have b2 : need [Kd.num, .num] (Row.num 999999999).wants = none := by decide
      have b3 : need [Kd.num, .num, .num] (Row.op .add).wants = none := by decide
      have b4 : need [Kd.num, .num] (Row.op .add).wants = none := by decide
      simp only [rowsY, if_true, runK, nextK, b1, show plainK (.copy 0) [Kd.num] = [.num, .num] from rfl, b2, show plainK (.num 999999999) [Kd.num, .num] = [.num, .num, .num] from rfl, b3, show plainK (.op .add) [Kd.num, .num, .num] = [.num, .num] from rfl, t0, a4, b4, show plainK (.op .add) [Kd.num, .num] = [.num] from rfl]
    | false =>
      have b2 : need [Kd.num] (Row.num 999999999).wants = none := by decide
      have b4 : need [Kd.num, .num] (Row.op .add).wants = none := by decide
      simp only [rowsY, Bool.false_eq_true, if_false, runK, nextK, b2, show plainK (.num 999999999) [Kd.num] = [.num, .num] from rfl, b4, show plainK (.op .add) [Kd.num, .num] = [.num] from rfl, t0, a3, show need [Kd.num] (Row.num s).wants = none from need_nil _, show plainK (.num s) [Kd.num] = [.num, .num] from rfl]
end Py

namespace Py
open PySem L2
theorem program_2_ok (ns : List Int) (t : Int) (h0 : 0 ≤ t) (h1 : t ≤ 900000) (lv : Bool) (s : Int) (hs : 0 ≤ s ∧ s < 1000000000) :
    ∃ (n0 n1 n2 : Str) (t' : Int), GoodP (cntP n0 n1 n2 lv s) ∧ Cnt (cntP n0 n1 n2 lv s) n0 n1 n2 lv s ∧ t ≤ t' ∧ t' ≤ t + 10 ∧
      s_program_2 [.d (.scr ns), .c 0, .d (.int s), .d (.bl lv)] [tc t] = .ok (.d (.tup [.dct (encP (cntP n0 n1 n2 lv s)), .lst (encS [n0, n1, n2])])) [tc t'] := by
  obtain ⟨bg, g1, g2, eg⟩ := begin_word ns t [] h0 h1
  have lX : (Str.ofString "X").length = 1 := by decide +kernel
  have lY : (Str.ofString "Y").length = 1 := by decide +kernel
  have lZ : (Str.ofString "Z").length = 1 := by decide +kernel
  have xy : Str.ofString "X" ≠ Str.ofString "Y" := fun e => by have := ofString_inj.mp e; simp at this
  have xz : Str.ofString "X" ≠ Str.ofString "Z" := fun e => by have := ofString_inj.mp e; simp at this
  have yz : Str.ofString "Y" ≠ Str.ofString "Z" := fun e => by have := ofString_inj.mp e; simp at this
  let n0 : Str := bg ++ Str.ofString "X" ++ bg
  let n1 : Str := bg ++ Str.ofString "Y" ++ bg
  let n2 : Str := bg ++ Str.ofString "Z" ++ bg
  obtain ⟨hG, hC⟩ := cnt_prg (n0 := n0) (n1 := n1) (n2 := n2) (lv := lv) (s := s) (nm_mid g1 g2 (strOk_of _) (by omega) (by omega)) (nm_mid g1 g2 (strOk_of _) (by omega) (by omega)) (nm_mid g1 g2 (strOk_of _) (by omega) (by omega)) (fun e => xy (str_mid e)) (fun e => xz (str_mid e)) (fun e => yz (str_mid e)) hs
  refine ⟨n0, n1, n2, t + 1 + 1, hG, hC, by omega, by omega, ?_⟩
  let E (x5 x6 x7 x8 x9 : Option W) : Env := [some (.d (.scr ns)), some (.c 0), some (.d (.int s)), some (.d (.bl lv)), some (.d (.str bg)), x5, x6, x7, x8, x9, none]
  let x5 : Option W := some (.d (.lst (encS [n0, n1, n2])))
  let x6 : Option W := some (.d (.tup (encK [.num])))
  let x7 : Option W := some (.d (.lst (encR [.plain (.copy 0), .iff n1 n2])))
  let S (kvs : List (Str × D)) : Store := [tc (t + 1 + 1), .dct kvs]
  have szs3 : (3 : Nat) ≤ sizeLine := small (by omega)
  -- the names
  have enames : asgM 5 (lcM false (itM (lstM false (consA (conM (.str "X")) (consA (conM (.str "Y")) (consA (conM (.str "Z")) nilA))))) 10 yesT (binM (addW false) (binM (addW false) (varM 4) (varM 10)) (varM 4))) (E none none none none none) [tc (t + 1 + 1)] = .nx (E x5 none none none none) [tc (t + 1 + 1)] := by
    refine asg_ok (lcm_ok (xs := [.str "X", .str "Y", .str "Z"]) (s1 := [tc (t + 1 + 1)]) (by simp only [szs, fnM, rawM, seqM, ifM, tvM, truM, binM, unM, appM, consA, nilA, varM, conM, retM, retN, asgM, expM, raiseM, passS, callF, app1, app2, noExc, isExc_d, isExc_c, bindS_ok, bindS_err, bindS_stuck, Res.bind_ok, Res.bind_err, Res.bind_stuck, onBl_bl, andT, orT, notT, andV, orV, notV, tupM, lstM, toDs, toD, asD_d, asD_new, frzW_d, newT, newL, slM, slW, someO, noneO, ixW, addW, subW, mulW, modW, cmpW, negW, lenW, intW, tabW, isNonB, isNonW, isNon_d, List.map_cons, List.map_nil, List.length_cons, List.length_nil, List.replicate, List.append_nil, List.nil_append, List.cons_append, List.getElem?_cons_zero, List.getElem?_cons_succ, List.set_cons_zero, List.set_cons_succ, Nat.reduceAdd, Nat.reduceSub, if_true, if_false, ite_true, ite_false, Bool.not_true, Bool.not_false, Bool.and_true, Bool.and_false, Bool.false_eq_true, reduceIte, fin_same, finE_same, fin_new, atI_0, atI_1, atI_2, eqW_ofs, look_ofs, look_nil, dspC, newDc, inW, Option.isSome_some, Option.isSome_none, itM, forM, items_dl, items_dt, methL, methD, arg0, arg1, arg2, appendW, popW, listW, get_new, set_new, isLst_new, pow109, String.reduceBEq, String.reduceEq, Bool.false_or, Bool.true_or, Bool.or_false, Bool.or_true, szs]) ?_ (by simp; exact szs3))
    rw [lcLoop_map (fun x => match x with | .str z => .str (bg ++ z ++ bg) | _ => .non) _ (fun x hx => ?_) (by simp; exact szs3)]
    · rfl
    · have one : ∀ z : Str, z.length = 1 → binM (addW false) (binM (addW false) (varM 4) (varM 10)) (varM 4) ((E none none none none none).set 10 (some (.d (.str z)))) [tc (t + 1 + 1)] = .ok (.d (.str (bg ++ z ++ bg))) [tc (t + 1 + 1)] := fun z hz => by
        have l1 : bg.length + z.length ≤ sizeLine := small (by omega)
        have l2 : (bg ++ z).length + bg.length ≤ sizeLine := small (by rw [Str.length_append]; omega)
        simp only [szs, fnM, rawM, seqM, ifM, tvM, truM, binM, unM, appM, consA, nilA, varM, conM, retM, retN, asgM, expM, raiseM, passS, callF, app1, app2, noExc, isExc_d, isExc_c, bindS_ok, bindS_err, bindS_stuck, Res.bind_ok, Res.bind_err, Res.bind_stuck, onBl_bl, andT, orT, notT, andV, orV, notV, tupM, lstM, toDs, toD, asD_d, asD_new, frzW_d, newT, newL, slM, slW, someO, noneO, ixW, addW, subW, mulW, modW, cmpW, negW, lenW, intW, tabW, isNonB, isNonW, isNon_d, List.map_cons, List.map_nil, List.length_cons, List.length_nil, List.replicate, List.append_nil, List.nil_append, List.cons_append, List.getElem?_cons_zero, List.getElem?_cons_succ, List.set_cons_zero, List.set_cons_succ, Nat.reduceAdd, Nat.reduceSub, if_true, if_false, ite_true, ite_false, Bool.not_true, Bool.not_false, Bool.and_true, Bool.and_false, Bool.false_eq_true, reduceIte, fin_same, finE_same, fin_new, atI_0, atI_1, atI_2, eqW_ofs, look_ofs, look_nil, dspC, newDc, inW, Option.isSome_some, Option.isSome_none, itM, forM, items_dl, items_dt, methL, methD, arg0, arg1, arg2, appendW, popW, listW, get_new, set_new, isLst_new, pow109, String.reduceBEq, String.reduceEq, Bool.false_or, Bool.true_or, Bool.or_false, Bool.or_true, E, l1, l2]
      simp only [List.mem_cons, List.not_mem_nil, or_false] at hx
      rcases hx with rfl | rfl | rfl
      · exact one _ lX
      · exact one _ lY
      · exact one _ lZ
  -- one more block
  have put : ∀ (P : Prg) (j : Nat) (n : Str) (rs : List Rw) (e : M W) (x7 x8 : Option W), P.length ≤ 10 → atI (encS [n0, n1, n2]) (j : Int) = some (.str n) → e (E x5 x6 x7 x8 (some (.c 1))) (S (encP P)) = .ok (.d (.lst (encR rs))) (S (encP P)) →
      setDM (varM 9) (binM ixW (varM 5) (conM (.int j))) (tupM (consA (varM 6) (consA (varM 6) (consA e nilA)))) (E x5 x6 x7 x8 (some (.c 1))) (S (encP P)) = .nx (E x5 x6 x7 x8 (some (.c 1))) (S (encP (putA P n (blkN rs)))) := fun P j n rs e x7 x8 hl hat he => by
    have hz : (encP P).length < sizeLine := lt_line (by rw [List.length_map]; omega)
    refine (setD_ok (k := 1) (s := n) (d := (blkN rs).enc) (kvs := encP P) ?_ rfl ?_ rfl hz).trans ?_
    · generalize S (encP P) = S' at he
      have h6 : varM 6 (E x5 x6 x7 x8 (some (.c 1))) S' = .ok (.d (.tup (encK [.num]))) S' := rfl
      simp only [tupM, consA, nilA, h6, he, Res.bind_ok, toDs, toD, asD_d, frzW_d, newT, List.length_cons, List.length_nil, szs, if_true]
      rfl
    · generalize S (encP P) = S'
      have h5 : varM 5 (E x5 x6 x7 x8 (some (.c 1))) S' = .ok (.d (.lst (encS [n0, n1, n2]))) S' := rfl
      simp only [binM, h5, conM, Res.bind_ok, ixW, asD_d, hat]
    · rw [putP]; rfl
  have hp0 : putA ([] : Prg) n2 (blkN []) = [(n2, blkN [])] := putA_new (by simp)
  have hp1 : putA [(n2, blkN [])] n0 (blkN [.plain (.copy 0), .iff n1 n2]) = [(n2, blkN []), (n0, blkN [.plain (.copy 0), .iff n1 n2])] := putA_new (fun p hp => by
    rw [List.mem_singleton] at hp; subst hp
    exact fun e => xz (str_mid e.symm))
  have hp2 : putA [(n2, blkN []), (n0, blkN [.plain (.copy 0), .iff n1 n2])] n1 (blkN (rowsY lv n0 s)) = cntP n0 n1 n2 lv s := putA_new (fun p hp => by
    simp only [List.mem_cons, List.not_mem_nil, or_false] at hp
    rcases hp with rfl | rfl
    · exact fun e => yz (str_mid e.symm)
    · exact fun e => xy (str_mid e))
  have a0 : atI (encS [n0, n1, n2]) 0 = some (.str n0) := rfl
  have a1 : atI (encS [n0, n1, n2]) 1 = some (.str n1) := atI_1 _ _ _
  have a2 : atI (encS [n0, n1, n2]) 2 = some (.str n2) := atI_2 _ _ _ _
  have l5 : (5 : Nat) ≤ sizeLine := small (by omega)
  unfold s_program_2
  refine (fnM_ret (w := .d (.tup [.dct (encP (cntP n0 n1 n2 lv s)), .lst (encS [n0, n1, n2])])) (st' := [tc (t + 1 + 1), .frz (.dct (encP (cntP n0 n1 n2 lv s)))]) rfl ?_).trans (fin_dat (st := [tc t]) (k := 0) (t := t) (e := [.frz (.dct (encP (cntP n0 n1 n2 lv s)))]) (by simp))
  unfold b_program_2
  refine (seq_nx (e := E none none none none none) (s := [tc (t + 1 + 1)]) (asg_ok (eg _ rfl rfl))).trans ?_
  refine (seq_nx enames).trans ?_
  refine (seq_nx (e := E x5 x6 none none none) (s := [tc (t + 1 + 1)]) (by simp only [szs, fnM, rawM, seqM, ifM, tvM, truM, binM, unM, appM, consA, nilA, varM, conM, retM, retN, asgM, expM, raiseM, passS, callF, app1, app2, noExc, isExc_d, isExc_c, bindS_ok, bindS_err, bindS_stuck, Res.bind_ok, Res.bind_err, Res.bind_stuck, onBl_bl, andT, orT, notT, andV, orV, notV, tupM, lstM, toDs, toD, asD_d, asD_new, frzW_d, newT, newL, slM, slW, someO, noneO, ixW, addW, subW, mulW, modW, cmpW, negW, lenW, intW, tabW, isNonB, isNonW, isNon_d, List.map_cons, List.map_nil, List.length_cons, List.length_nil, List.replicate, List.append_nil, List.nil_append, List.cons_append, List.getElem?_cons_zero, List.getElem?_cons_succ, List.set_cons_zero, List.set_cons_succ, Nat.reduceAdd, Nat.reduceSub, if_true, if_false, ite_true, ite_false, Bool.not_true, Bool.not_false, Bool.and_true, Bool.and_false, Bool.false_eq_true, reduceIte, fin_same, finE_same, fin_new, atI_0, atI_1, atI_2, eqW_ofs, look_ofs, look_nil, dspC, newDc, inW, Option.isSome_some, Option.isSome_none, itM, forM, items_dl, items_dt, methL, methD, arg0, arg1, arg2, appendW, popW, listW, get_new, set_new, isLst_new, pow109, String.reduceBEq, String.reduceEq, Bool.false_or, Bool.true_or, Bool.or_false, Bool.or_true, E, szs, x6] <;> rfl)).trans ?_
  refine (seq_nx (e := E x5 x6 x7 none none) (s := [tc (t + 1 + 1)]) (by
    simp only [x5, x7]
    simp only [szs, fnM, rawM, seqM, ifM, tvM, truM, binM, unM, appM, consA, nilA, varM, conM, retM, retN, asgM, expM, raiseM, passS, callF, app1, app2, noExc, isExc_d, isExc_c, bindS_ok, bindS_err, bindS_stuck, Res.bind_ok, Res.bind_err, Res.bind_stuck, onBl_bl, andT, orT, notT, andV, orV, notV, tupM, lstM, toDs, toD, asD_d, asD_new, frzW_d, newT, newL, slM, slW, someO, noneO, ixW, addW, subW, mulW, modW, cmpW, negW, lenW, intW, tabW, isNonB, isNonW, isNon_d, List.map_cons, List.map_nil, List.length_cons, List.length_nil, List.replicate, List.append_nil, List.nil_append, List.cons_append, List.getElem?_cons_zero, List.getElem?_cons_succ, List.set_cons_zero, List.set_cons_succ, Nat.reduceAdd, Nat.reduceSub, if_true, if_false, ite_true, ite_false, Bool.not_true, Bool.not_false, Bool.and_true, Bool.and_false, Bool.false_eq_true, reduceIte, fin_same, finE_same, fin_new, atI_0, atI_1, atI_2, eqW_ofs, look_ofs, look_nil, dspC, newDc, inW, Option.isSome_some, Option.isSome_none, itM, forM, items_dl, items_dt, methL, methD, arg0, arg1, arg2, appendW, popW, listW, get_new, set_new, isLst_new, pow109, String.reduceBEq, String.reduceEq, Bool.false_or, Bool.true_or, Bool.or_false, Bool.or_true, E, szs, a1, a2] <;> rfl)).trans ?_
  refine (seq_nx (e := E x5 x6 x7 (some (.d (.lst (encR (rowsY false n0 s))))) none) (s := [tc (t + 1 + 1)]) (by
    simp only [x5]
    simp only [szs, fnM, rawM, seqM, ifM, tvM, truM, binM, unM, appM, consA, nilA, varM, conM, retM, retN, asgM, expM, raiseM, passS, callF, app1, app2, noExc, isExc_d, isExc_c, bindS_ok, bindS_err, bindS_stuck, Res.bind_ok, Res.bind_err, Res.bind_stuck, onBl_bl, andT, orT, notT, andV, orV, notV, tupM, lstM, toDs, toD, asD_d, asD_new, frzW_d, newT, newL, slM, slW, someO, noneO, ixW, addW, subW, mulW, modW, cmpW, negW, lenW, intW, tabW, isNonB, isNonW, isNon_d, List.map_cons, List.map_nil, List.length_cons, List.length_nil, List.replicate, List.append_nil, List.nil_append, List.cons_append, List.getElem?_cons_zero, List.getElem?_cons_succ, List.set_cons_zero, List.set_cons_succ, Nat.reduceAdd, Nat.reduceSub, if_true, if_false, ite_true, ite_false, Bool.not_true, Bool.not_false, Bool.and_true, Bool.and_false, Bool.false_eq_true, reduceIte, fin_same, finE_same, fin_new, atI_0, atI_1, atI_2, eqW_ofs, look_ofs, look_nil, dspC, newDc, inW, Option.isSome_some, Option.isSome_none, itM, forM, items_dl, items_dt, methL, methD, arg0, arg1, arg2, appendW, popW, listW, get_new, set_new, isLst_new, pow109, String.reduceBEq, String.reduceEq, Bool.false_or, Bool.true_or, Bool.or_false, Bool.or_true, E, szs, a0, l5, rowsY] <;> rfl)).trans ?_
  refine (seq_nx (e := E x5 x6 x7 (some (.d (.lst (encR (rowsY lv n0 s))))) none) (s := [tc (t + 1 + 1)]) (by
    cases lv with
    | false => exact (if_f (s := [tc (t + 1 + 1)]) (by simp only [szs, fnM, rawM, seqM, ifM, tvM, truM, binM, unM, appM, consA, nilA, varM, conM, retM, retN, asgM, expM, raiseM, passS, callF, app1, app2, noExc, isExc_d, isExc_c, bindS_ok, bindS_err, bindS_stuck, Res.bind_ok, Res.bind_err, Res.bind_stuck, onBl_bl, andT, orT, notT, andV, orV, notV, tupM, lstM, toDs, toD, asD_d, asD_new, frzW_d, newT, newL, slM, slW, someO, noneO, ixW, addW, subW, mulW, modW, cmpW, negW, lenW, intW, tabW, isNonB, isNonW, isNon_d, List.map_cons, List.map_nil, List.length_cons, List.length_nil, List.replicate, List.append_nil, List.nil_append, List.cons_append, List.getElem?_cons_zero, List.getElem?_cons_succ, List.set_cons_zero, List.set_cons_succ, Nat.reduceAdd, Nat.reduceSub, if_true, if_false, ite_true, ite_false, Bool.not_true, Bool.not_false, Bool.and_true, Bool.and_false, Bool.false_eq_true, reduceIte, fin_same, finE_same, fin_new, atI_0, atI_1, atI_2, eqW_ofs, look_ofs, look_nil, dspC, newDc, inW, Option.isSome_some, Option.isSome_none, itM, forM, items_dl, items_dt, methL, methD, arg0, arg1, arg2, appendW, popW, listW, get_new, set_new, isLst_new, pow109, String.reduceBEq, String.reduceEq, Bool.false_or, Bool.true_or, Bool.or_false, Bool.or_true, E, truM])).trans rfl
    | true =>
      refine (if_t (s := [tc (t + 1 + 1)]) (by simp only [szs, fnM, rawM, seqM, ifM, tvM, truM, binM, unM, appM, consA, nilA, varM, conM, retM, retN, asgM, expM, raiseM, passS, callF, app1, app2, noExc, isExc_d, isExc_c, bindS_ok, bindS_err, bindS_stuck, Res.bind_ok, Res.bind_err, Res.bind_stuck, onBl_bl, andT, orT, notT, andV, orV, notV, tupM, lstM, toDs, toD, asD_d, asD_new, frzW_d, newT, newL, slM, slW, someO, noneO, ixW, addW, subW, mulW, modW, cmpW, negW, lenW, intW, tabW, isNonB, isNonW, isNon_d, List.map_cons, List.map_nil, List.length_cons, List.length_nil, List.replicate, List.append_nil, List.nil_append, List.cons_append, List.getElem?_cons_zero, List.getElem?_cons_succ, List.set_cons_zero, List.set_cons_succ, Nat.reduceAdd, Nat.reduceSub, if_true, if_false, ite_true, ite_false, Bool.not_true, Bool.not_false, Bool.and_true, Bool.and_false, Bool.false_eq_true, reduceIte, fin_same, finE_same, fin_new, atI_0, atI_1, atI_2, eqW_ofs, look_ofs, look_nil, dspC, newDc, inW, Option.isSome_some, Option.isSome_none, itM, forM, items_dl, items_dt, methL, methD, arg0, arg1, arg2, appendW, popW, listW, get_new, set_new, isLst_new, pow109, String.reduceBEq, String.reduceEq, Bool.false_or, Bool.true_or, Bool.or_false, Bool.or_true, E, truM])).trans ?_
      simp only [x5]
      simp only [szs, fnM, rawM, seqM, ifM, tvM, truM, binM, unM, appM, consA, nilA, varM, conM, retM, retN, asgM, expM, raiseM, passS, callF, app1, app2, noExc, isExc_d, isExc_c, bindS_ok, bindS_err, bindS_stuck, Res.bind_ok, Res.bind_err, Res.bind_stuck, onBl_bl, andT, orT, notT, andV, orV, notV, tupM, lstM, toDs, toD, asD_d, asD_new, frzW_d, newT, newL, slM, slW, someO, noneO, ixW, addW, subW, mulW, modW, cmpW, negW, lenW, intW, tabW, isNonB, isNonW, isNon_d, List.map_cons, List.map_nil, List.length_cons, List.length_nil, List.replicate, List.append_nil, List.nil_append, List.cons_append, List.getElem?_cons_zero, List.getElem?_cons_succ, List.set_cons_zero, List.set_cons_succ, Nat.reduceAdd, Nat.reduceSub, if_true, if_false, ite_true, ite_false, Bool.not_true, Bool.not_false, Bool.and_true, Bool.and_false, Bool.false_eq_true, reduceIte, fin_same, finE_same, fin_new, atI_0, atI_1, atI_2, eqW_ofs, look_ofs, look_nil, dspC, newDc, inW, Option.isSome_some, Option.isSome_none, itM, forM, items_dl, items_dt, methL, methD, arg0, arg1, arg2, appendW, popW, listW, get_new, set_new, isLst_new, pow109, String.reduceBEq, String.reduceEq, Bool.false_or, Bool.true_or, Bool.or_false, Bool.or_true, E, szs, a0, l5, rowsY] <;> rfl)).trans ?_
  refine (seq_nx (e := E x5 x6 x7 (some (.d (.lst (encR (rowsY lv n0 s))))) (some (.c 1))) (s := S (encP [])) (by simp only [szs, fnM, rawM, seqM, ifM, tvM, truM, binM, unM, appM, consA, nilA, varM, conM, retM, retN, asgM, expM, raiseM, passS, callF, app1, app2, noExc, isExc_d, isExc_c, bindS_ok, bindS_err, bindS_stuck, Res.bind_ok, Res.bind_err, Res.bind_stuck, onBl_bl, andT, orT, notT, andV, orV, notV, tupM, lstM, toDs, toD, asD_d, asD_new, frzW_d, newT, newL, slM, slW, someO, noneO, ixW, addW, subW, mulW, modW, cmpW, negW, lenW, intW, tabW, isNonB, isNonW, isNon_d, List.map_cons, List.map_nil, List.length_cons, List.length_nil, List.replicate, List.append_nil, List.nil_append, List.cons_append, List.getElem?_cons_zero, List.getElem?_cons_succ, List.set_cons_zero, List.set_cons_succ, Nat.reduceAdd, Nat.reduceSub, if_true, if_false, ite_true, ite_false, Bool.not_true, Bool.not_false, Bool.and_true, Bool.and_false, Bool.false_eq_true, reduceIte, fin_same, finE_same, fin_new, atI_0, atI_1, atI_2, eqW_ofs, look_ofs, look_nil, dspC, newDc, inW, Option.isSome_some, Option.isSome_none, itM, forM, items_dl, items_dt, methL, methD, arg0, arg1, arg2, appendW, popW, listW, get_new, set_new, isLst_new, pow109, String.reduceBEq, String.reduceEq, Bool.false_or, Bool.true_or, Bool.or_false, Bool.or_true, E] <;> rfl)).trans ?_
  refine (seq_nx (e := E x5 x6 x7 (some (.d (.lst (encR (rowsY lv n0 s))))) (some (.c 1))) (s := S (encP [(n2, blkN [])])) ?_).trans ?_
  · have := put [] 2 n2 [] (lstM false nilA) x7 (some (.d (.lst (encR (rowsY lv n0 s))))) (by simp) a2 (by simp only [szs, fnM, rawM, seqM, ifM, tvM, truM, binM, unM, appM, consA, nilA, varM, conM, retM, retN, asgM, expM, raiseM, passS, callF, app1, app2, noExc, isExc_d, isExc_c, bindS_ok, bindS_err, bindS_stuck, Res.bind_ok, Res.bind_err, Res.bind_stuck, onBl_bl, andT, orT, notT, andV, orV, notV, tupM, lstM, toDs, toD, asD_d, asD_new, frzW_d, newT, newL, slM, slW, someO, noneO, ixW, addW, subW, mulW, modW, cmpW, negW, lenW, intW, tabW, isNonB, isNonW, isNon_d, List.map_cons, List.map_nil, List.length_cons, List.length_nil, List.replicate, List.append_nil, List.nil_append, List.cons_append, List.getElem?_cons_zero, List.getElem?_cons_succ, List.set_cons_zero, List.set_cons_succ, Nat.reduceAdd, Nat.reduceSub, if_true, if_false, ite_true, ite_false, Bool.not_true, Bool.not_false, Bool.and_true, Bool.and_false, Bool.false_eq_true, reduceIte, fin_same, finE_same, fin_new, atI_0, atI_1, atI_2, eqW_ofs, look_ofs, look_nil, dspC, newDc, inW, Option.isSome_some, Option.isSome_none, itM, forM, items_dl, items_dt, methL, methD, arg0, arg1, arg2, appendW, popW, listW, get_new, set_new, isLst_new, pow109, String.reduceBEq, String.reduceEq, Bool.false_or, Bool.true_or, Bool.or_false, Bool.or_true, szs] <;> rfl)
    rw [hp0] at this
    exact this
  refine (seq_nx (e := E x5 x6 x7 (some (.d (.lst (encR (rowsY lv n0 s))))) (some (.c 1))) (s := S (encP [(n2, blkN []), (n0, blkN [.plain (.copy 0), .iff n1 n2])])) ?_).trans ?_
  · have := put [(n2, blkN [])] 0 n0 [.plain (.copy 0), .iff n1 n2] (varM 7) x7 (some (.d (.lst (encR (rowsY lv n0 s))))) (by simp) a0 rfl
    rw [hp1] at this
    exact this
  refine (seq_nx (e := E x5 x6 x7 (some (.d (.lst (encR (rowsY lv n0 s))))) (some (.c 1))) (s := S (encP (cntP n0 n1 n2 lv s))) ?_).trans ?_
  · have := put [(n2, blkN []), (n0, blkN [.plain (.copy 0), .iff n1 n2])] 1 n1 (rowsY lv n0 s) (varM 8) x7 (some (.d (.lst (encR (rowsY lv n0 s))))) (by simp) a1 rfl
    rw [hp2] at this
    exact this
  · generalize encP (cntP n0 n1 n2 lv s) = kvs
    simp only [x5]
    generalize encS [n0, n1, n2] = L
    simp only [retM, tupM, consA, nilA, E, varM, List.getElem?_cons_zero, List.getElem?_cons_succ, Res.bind_ok, toDs, toD, asD, S, frzW, newT, List.length_cons, List.length_nil, szs, if_true, bindS_ok]
    rfl
section
variable {st : Store} {pw w : W} {n : Str} {fuel : Nat} {vs : List Val} (hx : pw.isExc = false) (hxw : w.isExc = false)
include hx hxw
theorem run_3_fin (e : s_p_run [pw, .d (.str n), w, .d (.int fuel)] st = .ok (.c st.length) (st ++ [.lst (encV vs)])) : s_run_3 [pw, .d (.str n), w, .d (.int fuel)] st = .ok (.d (.lst (encV vs))) st := by
  refine (fnM_ret (st' := st ++ [.frz (.lst (encV vs))]) rfl ?_).trans (fin_grow st _ (.frz (.lst (encV vs))) (fun _ h => by cases h))
  unfold b_run_3
  refine try_nrm ?_
  unfold retM
  have hf : frM (callF s_p_run (consA (varM 0) (consA (varM 1) (consA (varM 2) (consA (varM 3) nilA))))) [some pw, some (.d (.str n)), some w, some (.d (.int fuel))] st = .ok (.d (.lst (encV vs))) (st ++ [.frz (.lst (encV vs))]) := by
    rw [fr_ok (k := st.length) (s := st ++ [.lst (encV vs)]) (d := .lst (encV vs)) (by simp only [szs, fnM, rawM, seqM, ifM, tvM, truM, binM, unM, appM, consA, nilA, varM, conM, retM, retN, asgM, expM, raiseM, passS, callF, app1, app2, noExc, isExc_d, isExc_c, bindS_ok, bindS_err, bindS_stuck, Res.bind_ok, Res.bind_err, Res.bind_stuck, onBl_bl, andT, orT, notT, andV, orV, notV, tupM, lstM, toDs, toD, asD_d, asD_new, frzW_d, newT, newL, slM, slW, someO, noneO, ixW, addW, subW, mulW, modW, cmpW, negW, lenW, intW, tabW, isNonB, isNonW, isNon_d, List.map_cons, List.map_nil, List.length_cons, List.length_nil, List.replicate, List.append_nil, List.nil_append, List.cons_append, List.getElem?_cons_zero, List.getElem?_cons_succ, List.set_cons_zero, List.set_cons_succ, Nat.reduceAdd, Nat.reduceSub, if_true, if_false, ite_true, ite_false, Bool.not_true, Bool.not_false, Bool.and_true, Bool.and_false, Bool.false_eq_true, reduceIte, fin_same, finE_same, fin_new, atI_0, atI_1, atI_2, eqW_ofs, look_ofs, look_nil, dspC, newDc, inW, Option.isSome_some, Option.isSome_none, itM, forM, items_dl, items_dt, methL, methD, arg0, arg1, arg2, appendW, popW, listW, get_new, set_new, isLst_new, pow109, String.reduceBEq, String.reduceEq, Bool.false_or, Bool.true_or, Bool.or_false, Bool.or_true, hx, hxw, e]) (asD_new _ _), set_new]
  show bindS (frM _ [some pw, some (.d (.str n)), some w, some (.d (.int fuel))] st) _ _ = _
  rw [hf]; rfl
theorem run_3_dry (e : s_p_run [pw, .d (.str n), w, .d (.int fuel)] st = .err .dry st) : s_run_3 [pw, .d (.str n), w, .d (.int fuel)] st = .ok (.d (.str "dry")) st := by
  refine (fnM_ret rfl ?_).trans (fin_same st _)
  unfold b_run_3
  have hf : frM (callF s_p_run (consA (varM 0) (consA (varM 1) (consA (varM 2) (consA (varM 3) nilA))))) [some pw, some (.d (.str n)), some w, some (.d (.int fuel))] st = .err .dry st := by
    unfold frM
    simp only [szs, fnM, rawM, seqM, ifM, tvM, truM, binM, unM, appM, consA, nilA, varM, conM, retM, retN, asgM, expM, raiseM, passS, callF, app1, app2, noExc, isExc_d, isExc_c, bindS_ok, bindS_err, bindS_stuck, Res.bind_ok, Res.bind_err, Res.bind_stuck, onBl_bl, andT, orT, notT, andV, orV, notV, tupM, lstM, toDs, toD, asD_d, asD_new, frzW_d, newT, newL, slM, slW, someO, noneO, ixW, addW, subW, mulW, modW, cmpW, negW, lenW, intW, tabW, isNonB, isNonW, isNon_d, List.map_cons, List.map_nil, List.length_cons, List.length_nil, List.replicate, List.append_nil, List.nil_append, List.cons_append, List.getElem?_cons_zero, List.getElem?_cons_succ, List.set_cons_zero, List.set_cons_succ, Nat.reduceAdd, Nat.reduceSub, if_true, if_false, ite_true, ite_false, Bool.not_true, Bool.not_false, Bool.and_true, Bool.and_false, Bool.false_eq_true, reduceIte, fin_same, finE_same, fin_new, atI_0, atI_1, atI_2, eqW_ofs, look_ofs, look_nil, dspC, newDc, inW, Option.isSome_some, Option.isSome_none, itM, forM, items_dl, items_dt, methL, methD, arg0, arg1, arg2, appendW, popW, listW, get_new, set_new, isLst_new, pow109, String.reduceBEq, String.reduceEq, Bool.false_or, Bool.true_or, Bool.or_false, Bool.or_true, hx, hxw, e]
  have he : retM (frM (callF s_p_run (consA (varM 0) (consA (varM 1) (consA (varM 2) (consA (varM 3) nilA)))))) [some pw, some (.d (.str n)), some w, some (.d (.int fuel))] st = .err .dry [some pw, some (.d (.str n)), some w, some (.d (.int fuel))] st := by
    unfold retM
    rw [hf]; rfl
  refine (try_err he).trans ?_
  simp only [handle, List.mem_singleton, if_true]
  simp only [szs, fnM, rawM, seqM, ifM, tvM, truM, binM, unM, appM, consA, nilA, varM, conM, retM, retN, asgM, expM, raiseM, passS, callF, app1, app2, noExc, isExc_d, isExc_c, bindS_ok, bindS_err, bindS_stuck, Res.bind_ok, Res.bind_err, Res.bind_stuck, onBl_bl, andT, orT, notT, andV, orV, notV, tupM, lstM, toDs, toD, asD_d, asD_new, frzW_d, newT, newL, slM, slW, someO, noneO, ixW, addW, subW, mulW, modW, cmpW, negW, lenW, intW, tabW, isNonB, isNonW, isNon_d, List.map_cons, List.map_nil, List.length_cons, List.length_nil, List.replicate, List.append_nil, List.nil_append, List.cons_append, List.getElem?_cons_zero, List.getElem?_cons_succ, List.set_cons_zero, List.set_cons_succ, Nat.reduceAdd, Nat.reduceSub, if_true, if_false, ite_true, ite_false, Bool.not_true, Bool.not_false, Bool.and_true, Bool.and_false, Bool.false_eq_true, reduceIte, fin_same, finE_same, fin_new, atI_0, atI_1, atI_2, eqW_ofs, look_ofs, look_nil, dspC, newDc, inW, Option.isSome_some, Option.isSome_none, itM, forM, items_dl, items_dt, methL, methD, arg0, arg1, arg2, appendW, popW, listW, get_new, set_new, isLst_new, pow109, String.reduceBEq, String.reduceEq, Bool.false_or, Bool.true_or, Bool.or_false, Bool.or_true, noErrS]
end
/-- a run by a way that is known -/
theorem go_run {P : Prg} (hP : PrgOk P) {st : Store} {pw w : W} {n : Str} {b : Blk} {vs vs' : List Val} {fuel k : Nat} (hpr : asD st pw = some (.dct (encP P))) (hpc : ∀ i, pw = .c i → ∃ kvs, st[i]? = some (.dct kvs) ∨ st[i]? = some (.frz (.dct kvs))) (hw : asD st w = some (.lst (encV vs))) (hv : ∀ v ∈ vs, v.ok) (hb : lookA n P = some b) (hr : 0 < b.rows.length)
    (g : Go P k vs [(n, 0)] vs' []) (hl : vs.length + fuel ≤ 100000) (hf : fuel ≤ 90000) :
    (k ≤ fuel → s_p_run [pw, .d (.str n), w, .d (.int fuel)] st = .ok (.c st.length) (st ++ [.lst (encV vs')])) ∧ (fuel < k → s_p_run [pw, .d (.str n), w, .d (.int fuel)] st = .err .dry st) := by
  have h := p_run_ok hP st pw w n vs fuel hpr hpc hw hv hl hf
  rw [hb] at h
  simp only at h
  rw [leave_in hb hr] at h
  generalize hwy : wayT P fuel vs [(n, 0)] = tr at h
  obtain ⟨a, c, d⟩ := tr
  constructor
  · intro hk
    obtain ⟨h1, h2⟩ := g.over hk
    rw [hwy] at h1 h2
    simp only at h1 h2
    subst h1 h2
    exact h
  · intro hk
    have h1 := g.dry fuel hk
    rw [hwy] at h1
    simp only at h1
    subst h1
    exact h
end Py

namespace Py
open PySem L2
abbrev S13 (t : Int) (B : List Val) : Store := [tc t, .lst (encV B)]
noncomputable abbrev beB : MS := (expM (methL (arg1 appendW) (varM 8) (consA (callF s_value (consA (varM 0) (consA (varM 1) (consA (binM ixW (lstM false (consA (conM (.str "num")) (consA (conM (.str "text")) nilA))) (callF s_draw (consA (varM 0) (consA (varM 1) (consA (conM (.int 2)) nilA))))) nilA)))) nilA)))
/-- what lies beneath -/
theorem beneath_ok (ns : List Int) (t : Int) (h0 : 0 ≤ t) (h1 : t ≤ 100000) (x2 x3 x4 x5 x6 x7 : Option W) : ∃ (B : List Val) (t' : Int) (x9 : Option W), (∀ v ∈ B, v.ok) ∧ B.length ≤ 63 ∧ t ≤ t' ∧ t' ≤ t + 500 ∧
    (forM (rngM (binM (addW false) (callF s_draw (consA (varM 0) (consA (varM 1) (consA (conM (.int 4)) nilA)))) (binM ixW (lstM false (consA (conM (.int 0)) (consA (conM (.int 0)) (consA (conM (.int 0)) (consA (conM (.int 0)) (consA (conM (.int 0)) (consA (conM (.int 60)) nilA))))))) (callF s_draw (consA (varM 0) (consA (varM 1) (consA (conM (.int 6)) nilA))))))) (.name 9)
     beB) [some (.d (.scr ns)), some (.c 0), x2, x3, x4, x5, x6, x7, some (.c 1), none, none, none, none, none] (S13 t []) = .nx [some (.d (.scr ns)), some (.c 0), x2, x3, x4, x5, x6, x7, some (.c 1), x9, none, none, none, none] (S13 t' B) := by
  obtain ⟨a, a0, a1, ea⟩ := draw0 ns t 4 [.lst []] (by omega) (by omega) (by decide)
  obtain ⟨b, b0, b1, eb⟩ := draw0 ns (t + 1) 6 [.lst []] (by omega) (by omega) (by decide)
  replace ea : s_draw [.d (.scr ns), .c 0, .d (.int 4)] (S13 t []) = .ok (.d (.int a)) (S13 (t + 1) []) := ea
  replace eb : s_draw [.d (.scr ns), .c 0, .d (.int 6)] (S13 (t + 1) []) = .ok (.d (.int b)) (S13 (t + 1 + 1) []) := eb
  obtain ⟨z, hz, ez⟩ := atI_in D.int [0, 0, 0, 0, 0, 60] b b0 b1
  simp only [List.map_cons, List.map_nil] at ez
  have hz2 : 0 ≤ z ∧ z ≤ 60 := by
    simp only [List.mem_cons, List.not_mem_nil, or_false] at hz
    rcases hz with h | h | h | h | h | h <;> omega
  have hn : (((a + z).toNat : Nat) : Int) = a + z := Int.toNat_of_nonneg (by omega)
  let E (x9 : Option W) : Env := [some (.d (.scr ns)), some (.c 0), x2, x3, x4, x5, x6, x7, some (.c 1), x9, none, none, none, none]
  obtain ⟨env', st', e, B, t', x9, q1, q2, q3, q4, q5⟩ := loop_inv (t := .name 9) (body := beB)
    (fun ys env S => ∃ (B : List Val) (t' : Int) (x9 : Option W), (∀ v ∈ B, v.ok) ∧ B.length + ys.length ≤ 63 ∧ (t + 2 ≤ t' ∧ t' = t + 2 + 3 * (B.length : Int)) ∧ env = E x9 ∧ S = S13 t' B)
    (uptoD (a + z).toNat) (E none) (S13 (t + 1 + 1) [])
    (fun y ys env S ⟨B, t', x9, q1, q2, q3, q4, q5⟩ => by
      subst q4 q5
      simp only [List.length_cons] at q2
      obtain ⟨c, c0, c1, ec⟩ := draw0 ns t' 2 [.lst (encV B)] (by omega) (by omega) (by decide)
      obtain ⟨kd, ek⟩ := kdAt c c0 c1
      obtain ⟨v, v1, v2, ev⟩ := value0 ns (t' + 1) kd [.lst (encV B)] (by omega) (by omega)
      have sL : (encV B).length < sizeLine := lt_line (by rw [List.length_map]; omega)
      have ee : encV B ++ [v.enc] = encV (B ++ [v]) := by simp
      have hil : isLst (.c 1) (S13 t' B) = true := rfl
      have hg : ∀ t'', (tc t'' :: [Cell.lst (encV B)])[1]? = some (.lst (encV B)) := fun _ => rfl
      have hs : ∀ t'' c', (tc t'' :: [Cell.lst (encV B)]).set 1 c' = [tc t'', c'] := fun _ _ => rfl
      refine ⟨_, E (some (.d y)), S13 (t' + 1 + 2) (B ++ [v]), rfl, ?_, B ++ [v], t' + 1 + 2, _, ?_, ?_, ⟨by omega, ?_⟩, rfl, rfl⟩
      · simp only [szs, fnM, rawM, seqM, ifM, tvM, truM, binM, unM, appM, consA, nilA, varM, conM, retM, retN, asgM, expM, raiseM, passS, callF, app1, app2, noExc, isExc_d, isExc_c, bindS_ok, bindS_err, bindS_stuck, Res.bind_ok, Res.bind_err, Res.bind_stuck, onBl_bl, andT, orT, notT, andV, orV, notV, tupM, lstM, toDs, toD, asD_d, asD_new, frzW_d, newT, newL, slM, slW, someO, noneO, ixW, addW, subW, mulW, modW, cmpW, negW, lenW, intW, tabW, isNonB, isNonW, isNon_d, List.map_cons, List.map_nil, List.length_cons, List.length_nil, List.replicate, List.append_nil, List.nil_append, List.cons_append, List.getElem?_cons_zero, List.getElem?_cons_succ, List.set_cons_zero, List.set_cons_succ, Nat.reduceAdd, Nat.reduceSub, if_true, if_false, ite_true, ite_false, Bool.not_true, Bool.not_false, Bool.and_true, Bool.and_false, Bool.false_eq_true, reduceIte, fin_same, finE_same, fin_new, atI_0, atI_1, atI_2, eqW_ofs, look_ofs, look_nil, dspC, newDc, inW, Option.isSome_some, Option.isSome_none, itM, forM, items_dl, items_dt, methL, methD, arg0, arg1, arg2, appendW, popW, listW, get_new, set_new, isLst_new, pow109, String.reduceBEq, String.reduceEq, Bool.false_or, Bool.true_or, Bool.or_false, Bool.or_true, E, hil, szs, ec, ek, ev, sL, ee]
      · intro u hu
        rcases List.mem_append.mp hu with h | h
        · exact q1 u h
        · rw [List.mem_singleton] at h; subst h; exact v1
      · rw [List.length_append, List.length_singleton]; omega
      · rw [List.length_append, List.length_singleton]; omega)
    ⟨[], t + 1 + 1, none, by simp, by simp [uptoD]; omega, ⟨by omega, by simp; omega⟩, rfl, rfl⟩
  subst q4 q5
  refine ⟨B, t', x9, q1, by simpa using q2, by omega, by simp only [List.length_nil] at q2; omega, ?_⟩
  unfold forM
  rw [rng_ok _ _ _ (S13 (t + 1 + 1) []) (a + z).toNat (by rw [hn]; simp only [szs, fnM, rawM, seqM, ifM, tvM, truM, binM, unM, appM, consA, nilA, varM, conM, retM, retN, asgM, expM, raiseM, passS, callF, app1, app2, noExc, isExc_d, isExc_c, bindS_ok, bindS_err, bindS_stuck, Res.bind_ok, Res.bind_err, Res.bind_stuck, onBl_bl, andT, orT, notT, andV, orV, notV, tupM, lstM, toDs, toD, asD_d, asD_new, frzW_d, newT, newL, slM, slW, someO, noneO, ixW, addW, subW, mulW, modW, cmpW, negW, lenW, intW, tabW, isNonB, isNonW, isNon_d, List.map_cons, List.map_nil, List.length_cons, List.length_nil, List.replicate, List.append_nil, List.nil_append, List.cons_append, List.getElem?_cons_zero, List.getElem?_cons_succ, List.set_cons_zero, List.set_cons_succ, Nat.reduceAdd, Nat.reduceSub, if_true, if_false, ite_true, ite_false, Bool.not_true, Bool.not_false, Bool.and_true, Bool.and_false, Bool.false_eq_true, reduceIte, fin_same, finE_same, fin_new, atI_0, atI_1, atI_2, eqW_ofs, look_ofs, look_nil, dspC, newDc, inW, Option.isSome_some, Option.isSome_none, itM, forM, items_dl, items_dt, methL, methD, arg0, arg1, arg2, appendW, popW, listW, get_new, set_new, isLst_new, pow109, String.reduceBEq, String.reduceEq, Bool.false_or, Bool.true_or, Bool.or_false, Bool.or_true, ea, eb, ez, szs]) (by omega)]
  exact e
theorem law_k13_ok (ns : List Int) : s_law_k13 [.d (.scr ns)] [] = .ok (.d (.bl true)) [] := by
  obtain ⟨v, v1, v2, ev⟩ := value0 ns 0 .num [] (by omega) (by omega)
  cases v with
  | s _ => cases v2
  | i s =>
  have hs : 0 ≤ s ∧ s < 1000000000 := v1
  have ev' : s_value [.d (.scr ns), .c 0, .d (.str "num")] [tc 0] = .ok (.d (.int s)) [tc 2] := ev
  obtain ⟨m0, m00, m01, em0⟩ := draw0 ns 2 12 [] (by omega) (by omega) (by decide)
  let E (x3 x4 x5 x6 x7 x8 x9 x10 x11 x12 x13 : Option W) : Env := [some (.d (.scr ns)), some (.c 0), some (.d (.int s)), x3, x4, x5, x6, x7, x8, x9, x10, x11, x12, x13]
  -- how many
  obtain ⟨c, t1, hc, t10, t11, eM⟩ : ∃ (c : Nat) (t1 : Int), c ≤ 390 ∧ 0 ≤ t1 ∧ t1 ≤ 10 ∧ (ifM (tvM (binM (eqW false) (callF s_draw (consA (varM 0) (consA (varM 1) (consA (conM (.int 6)) nilA)))) (conM (.int 1))))
     (asgM 3 (binM (addW false) (callF s_draw (consA (varM 0) (consA (varM 1) (consA (conM (.int 91)) nilA)))) (binM (mulW false) (conM (.int 300)) (appM (app1 intW) (consA (binM (eqW false) (callF s_draw (consA (varM 0) (consA (varM 1) (consA (conM (.int 4)) nilA)))) (conM (.int 1))) nilA)))))
     passS) (E (some (.d (.int m0))) none none none none none none none none none none) [tc 3] = .nx (E (some (.d (.int c))) none none none none none none none none none none) [tc t1] := by
    obtain ⟨a, a0, a1, ea⟩ := draw0 ns 3 6 [] (by omega) (by omega) (by decide)
    by_cases h : a = 1
    · subst h
      obtain ⟨b, b0, b1, eb⟩ := draw0 ns (3 + 1) 91 [] (by omega) (by omega) (by decide)
      obtain ⟨d, d0, d1, ed⟩ := draw0 ns (3 + 1 + 1) 4 [] (by omega) (by omega) (by decide)
      have h30 : ∀ j : Int, mulOk 300 j = true := fun j => mulOk_l (by decide) (by decide)
      have hx : 0 ≤ b + 300 * (if (d == 1) = true then (1 : Int) else 0) ∧ b + 300 * (if (d == 1) = true then (1 : Int) else 0) ≤ 390 := by split <;> omega
      refine ⟨(b + 300 * (if (d == 1) = true then (1 : Int) else 0)).toNat, 3 + 1 + 1 + 1, by omega, by omega, by omega, ?_⟩
      rw [Int.toNat_of_nonneg hx.1]
      refine (if_t (s := [tc (3 + 1)]) (by simp only [szs, fnM, rawM, seqM, ifM, tvM, truM, binM, unM, appM, consA, nilA, varM, conM, retM, retN, asgM, expM, raiseM, passS, callF, app1, app2, noExc, isExc_d, isExc_c, bindS_ok, bindS_err, bindS_stuck, Res.bind_ok, Res.bind_err, Res.bind_stuck, onBl_bl, andT, orT, notT, andV, orV, notV, tupM, lstM, toDs, toD, asD_d, asD_new, frzW_d, newT, newL, slM, slW, someO, noneO, ixW, addW, subW, mulW, modW, cmpW, negW, lenW, intW, tabW, isNonB, isNonW, isNon_d, List.map_cons, List.map_nil, List.length_cons, List.length_nil, List.replicate, List.append_nil, List.nil_append, List.cons_append, List.getElem?_cons_zero, List.getElem?_cons_succ, List.set_cons_zero, List.set_cons_succ, Nat.reduceAdd, Nat.reduceSub, if_true, if_false, ite_true, ite_false, Bool.not_true, Bool.not_false, Bool.and_true, Bool.and_false, Bool.false_eq_true, reduceIte, fin_same, finE_same, fin_new, atI_0, atI_1, atI_2, eqW_ofs, look_ofs, look_nil, dspC, newDc, inW, Option.isSome_some, Option.isSome_none, itM, forM, items_dl, items_dt, methL, methD, arg0, arg1, arg2, appendW, popW, listW, get_new, set_new, isLst_new, pow109, String.reduceBEq, String.reduceEq, Bool.false_or, Bool.true_or, Bool.or_false, Bool.or_true, E, ea, eqW_int, beq_self_eq_true])).trans ?_
      simp only [szs, fnM, rawM, seqM, ifM, tvM, truM, binM, unM, appM, consA, nilA, varM, conM, retM, retN, asgM, expM, raiseM, passS, callF, app1, app2, noExc, isExc_d, isExc_c, bindS_ok, bindS_err, bindS_stuck, Res.bind_ok, Res.bind_err, Res.bind_stuck, onBl_bl, andT, orT, notT, andV, orV, notV, tupM, lstM, toDs, toD, asD_d, asD_new, frzW_d, newT, newL, slM, slW, someO, noneO, ixW, addW, subW, mulW, modW, cmpW, negW, lenW, intW, tabW, isNonB, isNonW, isNon_d, List.map_cons, List.map_nil, List.length_cons, List.length_nil, List.replicate, List.append_nil, List.nil_append, List.cons_append, List.getElem?_cons_zero, List.getElem?_cons_succ, List.set_cons_zero, List.set_cons_succ, Nat.reduceAdd, Nat.reduceSub, if_true, if_false, ite_true, ite_false, Bool.not_true, Bool.not_false, Bool.and_true, Bool.and_false, Bool.false_eq_true, reduceIte, fin_same, finE_same, fin_new, atI_0, atI_1, atI_2, eqW_ofs, look_ofs, look_nil, dspC, newDc, inW, Option.isSome_some, Option.isSome_none, itM, forM, items_dl, items_dt, methL, methD, arg0, arg1, arg2, appendW, popW, listW, get_new, set_new, isLst_new, pow109, String.reduceBEq, String.reduceEq, Bool.false_or, Bool.true_or, Bool.or_false, Bool.or_true, E, eb, ed, eqW_int, h30]
    · have h' : (a == 1) = false := by simpa using h
      refine ⟨m0.toNat, 3 + 1, by omega, by omega, by omega, ?_⟩
      rw [Int.toNat_of_nonneg m00]
      exact (if_f (s := [tc (3 + 1)]) (by simp only [szs, fnM, rawM, seqM, ifM, tvM, truM, binM, unM, appM, consA, nilA, varM, conM, retM, retN, asgM, expM, raiseM, passS, callF, app1, app2, noExc, isExc_d, isExc_c, bindS_ok, bindS_err, bindS_stuck, Res.bind_ok, Res.bind_err, Res.bind_stuck, onBl_bl, andT, orT, notT, andV, orV, notV, tupM, lstM, toDs, toD, asD_d, asD_new, frzW_d, newT, newL, slM, slW, someO, noneO, ixW, addW, subW, mulW, modW, cmpW, negW, lenW, intW, tabW, isNonB, isNonW, isNon_d, List.map_cons, List.map_nil, List.length_cons, List.length_nil, List.replicate, List.append_nil, List.nil_append, List.cons_append, List.getElem?_cons_zero, List.getElem?_cons_succ, List.set_cons_zero, List.set_cons_succ, Nat.reduceAdd, Nat.reduceSub, if_true, if_false, ite_true, ite_false, Bool.not_true, Bool.not_false, Bool.and_true, Bool.and_false, Bool.false_eq_true, reduceIte, fin_same, finE_same, fin_new, atI_0, atI_1, atI_2, eqW_ofs, look_ofs, look_nil, dspC, newDc, inW, Option.isSome_some, Option.isSome_none, itM, forM, items_dl, items_dt, methL, methD, arg0, arg1, arg2, appendW, popW, listW, get_new, set_new, isLst_new, pow109, String.reduceBEq, String.reduceEq, Bool.false_or, Bool.true_or, Bool.or_false, Bool.or_true, E, ea, eqW_int, h'])).trans rfl
  obtain ⟨way, w0, w1, ew⟩ := draw0 ns t1 3 [] (by omega) (by omega) (by decide)
  obtain ⟨l0, l00, l01, el⟩ := draw0 ns (t1 + 1) 2 [] (by omega) (by omega) (by decide)
  obtain ⟨lv, hlv⟩ : ∃ lv : Bool, (l0 == 0) = lv := ⟨_, rfl⟩
  obtain ⟨n0, n1, n2, t2, hG, hC, t20, t21, eP⟩ := program_2_ok ns (t1 + 1 + 1) (by omega) (by omega) lv s hs
  let P : Prg := cntP n0 n1 n2 lv s
  let pd : D := .dct (encP P)
  have hP : PrgOk P := hG.ok
  let x5 : Option W := some (.d (.bl lv))
  let x6 : Option W := some (.d pd)
  let x7 : Option W := some (.d (.lst (encS [n0, n1, n2])))
  obtain ⟨B, t3, x9, hB, hBl, t30, t31, eB⟩ := beneath_ok ns t2 (by omega) (by omega) (some (.d (.int s))) (some (.d (.int c))) (some (.d (.int way))) x5 x6 x7
  have hlet : LetBy P n0 := good_letby hG hC.h0
  have hm7 : ∀ j : Int, mulOk 7 j = true := fun j => mulOk_l (by decide) (by decide)
  let st : Nat := 7 * c + 2
  have hst0 : st = 7 * c + 2 := rfl
  have hst : (7 : Int) * (c : Int) + 2 = ((st : Nat) : Int) := by omega
  let x10 : Option W := some (.d (.int (st : Nat)))
  have a0 : atI (encS [n0, n1, n2]) 0 = some (.str n0) := rfl
  -- let by, no height
  obtain ⟨r, hr, er⟩ := let_by_ok (.d pd) (S13 t3 B) P n0 rfl hP (by show (cntP n0 n1 n2 lv s).length ≤ 70; simp [cntP])
  have hrt : r = true := hr.mpr hlet
  subst hrt
  have hring : Rch P n0 n0 := .more (.one hC.h0 (show n1 ∈ named (blkN [.plain (.copy 0), .iff n1 n2]) by simp [named, Rw.names])) hC.h1 (show n0 ∈ named (blkN (rowsY lv n0 s)) by cases lv <;> simp [named, Rw.names, rowsY])
  have eh := (height_ok hP (by show (cntP n0 n1 n2 lv s).length ≤ 70; simp [cntP]) (.d pd) (S13 t3 B) rfl n0 hlet).2 ⟨n0, .inl rfl, hring⟩
  -- the fuel
  obtain ⟨fuel, t4, hf, t40, eF⟩ : ∃ (fuel : Nat) (t4 : Int), fuel ≤ 5000 ∧ 0 ≤ t4 ∧ ∀ rest : MS, seqM (asgM 11 (varM 10))
     (seqM (ifM (tvM (binM (eqW false) (varM 4) (conM (.int 1))))
     (asgM 11 (callF s_draw (consA (varM 0) (consA (varM 1) (consA (varM 10) nilA)))))
     passS)
     (seqM (ifM (tvM (binM (eqW false) (varM 4) (conM (.int 2))))
     (asgM 11 (binM (addW false) (binM (addW false) (varM 10) (conM (.int 1))) (callF s_draw (consA (varM 0) (consA (varM 1) (consA (conM (.int 1000)) nilA))))))
     passS) rest)) (E (some (.d (.int c))) (some (.d (.int way))) x5 x6 x7 (some (.c 1)) x9 x10 none none none) (S13 t3 B) = rest (E (some (.d (.int c))) (some (.d (.int way))) x5 x6 x7 (some (.c 1)) x9 x10 (some (.d (.int (fuel : Nat)))) none none) (S13 t4 B) := by
    have pre : ∀ rest : MS, seqM (asgM 11 (varM 10)) rest (E (some (.d (.int c))) (some (.d (.int way))) x5 x6 x7 (some (.c 1)) x9 x10 none none none) (S13 t3 B) = rest (E (some (.d (.int c))) (some (.d (.int way))) x5 x6 x7 (some (.c 1)) x9 x10 x10 none none) (S13 t3 B) := fun rest => seq_nx rfl
    by_cases h1 : way = 1
    · obtain ⟨f, f0, f1, ef⟩ := draw0 ns t3 (st : Int) [.lst (encV B)] (by omega) (by omega) (by omega)
      refine ⟨f.toNat, t3 + 1, by omega, by omega, fun rest => (pre _).trans ?_⟩
      rw [Int.toNat_of_nonneg f0]
      subst h1
      refine (seq_nx (e := E (some (.d (.int c))) (some (.d (.int 1))) x5 x6 x7 (some (.c 1)) x9 x10 (some (.d (.int f))) none none) (s := S13 (t3 + 1) B) (by
        refine (if_t (s := S13 t3 B) (by simp only [szs, fnM, rawM, seqM, ifM, tvM, truM, binM, unM, appM, consA, nilA, varM, conM, retM, retN, asgM, expM, raiseM, passS, callF, app1, app2, noExc, isExc_d, isExc_c, bindS_ok, bindS_err, bindS_stuck, Res.bind_ok, Res.bind_err, Res.bind_stuck, onBl_bl, andT, orT, notT, andV, orV, notV, tupM, lstM, toDs, toD, asD_d, asD_new, frzW_d, newT, newL, slM, slW, someO, noneO, ixW, addW, subW, mulW, modW, cmpW, negW, lenW, intW, tabW, isNonB, isNonW, isNon_d, List.map_cons, List.map_nil, List.length_cons, List.length_nil, List.replicate, List.append_nil, List.nil_append, List.cons_append, List.getElem?_cons_zero, List.getElem?_cons_succ, List.set_cons_zero, List.set_cons_succ, Nat.reduceAdd, Nat.reduceSub, if_true, if_false, ite_true, ite_false, Bool.not_true, Bool.not_false, Bool.and_true, Bool.and_false, Bool.false_eq_true, reduceIte, fin_same, finE_same, fin_new, atI_0, atI_1, atI_2, eqW_ofs, look_ofs, look_nil, dspC, newDc, inW, Option.isSome_some, Option.isSome_none, itM, forM, items_dl, items_dt, methL, methD, arg0, arg1, arg2, appendW, popW, listW, get_new, set_new, isLst_new, pow109, String.reduceBEq, String.reduceEq, Bool.false_or, Bool.true_or, Bool.or_false, Bool.or_true, E, eqW_int, beq_self_eq_true])).trans ?_
        simp only [szs, fnM, rawM, seqM, ifM, tvM, truM, binM, unM, appM, consA, nilA, varM, conM, retM, retN, asgM, expM, raiseM, passS, callF, app1, app2, noExc, isExc_d, isExc_c, bindS_ok, bindS_err, bindS_stuck, Res.bind_ok, Res.bind_err, Res.bind_stuck, onBl_bl, andT, orT, notT, andV, orV, notV, tupM, lstM, toDs, toD, asD_d, asD_new, frzW_d, newT, newL, slM, slW, someO, noneO, ixW, addW, subW, mulW, modW, cmpW, negW, lenW, intW, tabW, isNonB, isNonW, isNon_d, List.map_cons, List.map_nil, List.length_cons, List.length_nil, List.replicate, List.append_nil, List.nil_append, List.cons_append, List.getElem?_cons_zero, List.getElem?_cons_succ, List.set_cons_zero, List.set_cons_succ, Nat.reduceAdd, Nat.reduceSub, if_true, if_false, ite_true, ite_false, Bool.not_true, Bool.not_false, Bool.and_true, Bool.and_false, Bool.false_eq_true, reduceIte, fin_same, finE_same, fin_new, atI_0, atI_1, atI_2, eqW_ofs, look_ofs, look_nil, dspC, newDc, inW, Option.isSome_some, Option.isSome_none, itM, forM, items_dl, items_dt, methL, methD, arg0, arg1, arg2, appendW, popW, listW, get_new, set_new, isLst_new, pow109, String.reduceBEq, String.reduceEq, Bool.false_or, Bool.true_or, Bool.or_false, Bool.or_true, E, x10, ef])).trans ?_
      exact seq_nx ((if_f (s := S13 (t3 + 1) B) (by simp only [szs, fnM, rawM, seqM, ifM, tvM, truM, binM, unM, appM, consA, nilA, varM, conM, retM, retN, asgM, expM, raiseM, passS, callF, app1, app2, noExc, isExc_d, isExc_c, bindS_ok, bindS_err, bindS_stuck, Res.bind_ok, Res.bind_err, Res.bind_stuck, onBl_bl, andT, orT, notT, andV, orV, notV, tupM, lstM, toDs, toD, asD_d, asD_new, frzW_d, newT, newL, slM, slW, someO, noneO, ixW, addW, subW, mulW, modW, cmpW, negW, lenW, intW, tabW, isNonB, isNonW, isNon_d, List.map_cons, List.map_nil, List.length_cons, List.length_nil, List.replicate, List.append_nil, List.nil_append, List.cons_append, List.getElem?_cons_zero, List.getElem?_cons_succ, List.set_cons_zero, List.set_cons_succ, Nat.reduceAdd, Nat.reduceSub, if_true, if_false, ite_true, ite_false, Bool.not_true, Bool.not_false, Bool.and_true, Bool.and_false, Bool.false_eq_true, reduceIte, fin_same, finE_same, fin_new, atI_0, atI_1, atI_2, eqW_ofs, look_ofs, look_nil, dspC, newDc, inW, Option.isSome_some, Option.isSome_none, itM, forM, items_dl, items_dt, methL, methD, arg0, arg1, arg2, appendW, popW, listW, get_new, set_new, isLst_new, pow109, String.reduceBEq, String.reduceEq, Bool.false_or, Bool.true_or, Bool.or_false, Bool.or_true, E, eqW_int, show ((1 : Int) == 2) = false from rfl])).trans rfl)
    · have h1' : (way == 1) = false := by simpa using h1
      by_cases h2 : way = 2
      · obtain ⟨f, f0, f1, ef⟩ := draw0 ns t3 1000 [.lst (encV B)] (by omega) (by omega) (by decide)
        refine ⟨st + 1 + f.toNat, t3 + 1, by omega, by omega, fun rest => (pre _).trans ?_⟩
        rw [show ((st + 1 + f.toNat : Nat) : Int) = (st : Int) + 1 + f by omega]
        subst h2
        refine (seq_nx (e := E (some (.d (.int c))) (some (.d (.int 2))) x5 x6 x7 (some (.c 1)) x9 x10 x10 none none) (s := S13 t3 B) ((if_f (s := S13 t3 B) (by simp only [szs, fnM, rawM, seqM, ifM, tvM, truM, binM, unM, appM, consA, nilA, varM, conM, retM, retN, asgM, expM, raiseM, passS, callF, app1, app2, noExc, isExc_d, isExc_c, bindS_ok, bindS_err, bindS_stuck, Res.bind_ok, Res.bind_err, Res.bind_stuck, onBl_bl, andT, orT, notT, andV, orV, notV, tupM, lstM, toDs, toD, asD_d, asD_new, frzW_d, newT, newL, slM, slW, someO, noneO, ixW, addW, subW, mulW, modW, cmpW, negW, lenW, intW, tabW, isNonB, isNonW, isNon_d, List.map_cons, List.map_nil, List.length_cons, List.length_nil, List.replicate, List.append_nil, List.nil_append, List.cons_append, List.getElem?_cons_zero, List.getElem?_cons_succ, List.set_cons_zero, List.set_cons_succ, Nat.reduceAdd, Nat.reduceSub, if_true, if_false, ite_true, ite_false, Bool.not_true, Bool.not_false, Bool.and_true, Bool.and_false, Bool.false_eq_true, reduceIte, fin_same, finE_same, fin_new, atI_0, atI_1, atI_2, eqW_ofs, look_ofs, look_nil, dspC, newDc, inW, Option.isSome_some, Option.isSome_none, itM, forM, items_dl, items_dt, methL, methD, arg0, arg1, arg2, appendW, popW, listW, get_new, set_new, isLst_new, pow109, String.reduceBEq, String.reduceEq, Bool.false_or, Bool.true_or, Bool.or_false, Bool.or_true, E, eqW_int, h1'])).trans rfl)).trans ?_
        refine seq_nx ?_
        refine (if_t (s := S13 t3 B) (by simp only [szs, fnM, rawM, seqM, ifM, tvM, truM, binM, unM, appM, consA, nilA, varM, conM, retM, retN, asgM, expM, raiseM, passS, callF, app1, app2, noExc, isExc_d, isExc_c, bindS_ok, bindS_err, bindS_stuck, Res.bind_ok, Res.bind_err, Res.bind_stuck, onBl_bl, andT, orT, notT, andV, orV, notV, tupM, lstM, toDs, toD, asD_d, asD_new, frzW_d, newT, newL, slM, slW, someO, noneO, ixW, addW, subW, mulW, modW, cmpW, negW, lenW, intW, tabW, isNonB, isNonW, isNon_d, List.map_cons, List.map_nil, List.length_cons, List.length_nil, List.replicate, List.append_nil, List.nil_append, List.cons_append, List.getElem?_cons_zero, List.getElem?_cons_succ, List.set_cons_zero, List.set_cons_succ, Nat.reduceAdd, Nat.reduceSub, if_true, if_false, ite_true, ite_false, Bool.not_true, Bool.not_false, Bool.and_true, Bool.and_false, Bool.false_eq_true, reduceIte, fin_same, finE_same, fin_new, atI_0, atI_1, atI_2, eqW_ofs, look_ofs, look_nil, dspC, newDc, inW, Option.isSome_some, Option.isSome_none, itM, forM, items_dl, items_dt, methL, methD, arg0, arg1, arg2, appendW, popW, listW, get_new, set_new, isLst_new, pow109, String.reduceBEq, String.reduceEq, Bool.false_or, Bool.true_or, Bool.or_false, Bool.or_true, E, eqW_int, beq_self_eq_true])).trans ?_
        simp only [szs, fnM, rawM, seqM, ifM, tvM, truM, binM, unM, appM, consA, nilA, varM, conM, retM, retN, asgM, expM, raiseM, passS, callF, app1, app2, noExc, isExc_d, isExc_c, bindS_ok, bindS_err, bindS_stuck, Res.bind_ok, Res.bind_err, Res.bind_stuck, onBl_bl, andT, orT, notT, andV, orV, notV, tupM, lstM, toDs, toD, asD_d, asD_new, frzW_d, newT, newL, slM, slW, someO, noneO, ixW, addW, subW, mulW, modW, cmpW, negW, lenW, intW, tabW, isNonB, isNonW, isNon_d, List.map_cons, List.map_nil, List.length_cons, List.length_nil, List.replicate, List.append_nil, List.nil_append, List.cons_append, List.getElem?_cons_zero, List.getElem?_cons_succ, List.set_cons_zero, List.set_cons_succ, Nat.reduceAdd, Nat.reduceSub, if_true, if_false, ite_true, ite_false, Bool.not_true, Bool.not_false, Bool.and_true, Bool.and_false, Bool.false_eq_true, reduceIte, fin_same, finE_same, fin_new, atI_0, atI_1, atI_2, eqW_ofs, look_ofs, look_nil, dspC, newDc, inW, Option.isSome_some, Option.isSome_none, itM, forM, items_dl, items_dt, methL, methD, arg0, arg1, arg2, appendW, popW, listW, get_new, set_new, isLst_new, pow109, String.reduceBEq, String.reduceEq, Bool.false_or, Bool.true_or, Bool.or_false, Bool.or_true, E, x10, ef]
      · have h2' : (way == 2) = false := by simpa using h2
        refine ⟨st, t3, by omega, by omega, fun rest => (pre _).trans ?_⟩
        refine (seq_nx (e := E (some (.d (.int c))) (some (.d (.int way))) x5 x6 x7 (some (.c 1)) x9 x10 x10 none none) (s := S13 t3 B) ((if_f (s := S13 t3 B) (by simp only [szs, fnM, rawM, seqM, ifM, tvM, truM, binM, unM, appM, consA, nilA, varM, conM, retM, retN, asgM, expM, raiseM, passS, callF, app1, app2, noExc, isExc_d, isExc_c, bindS_ok, bindS_err, bindS_stuck, Res.bind_ok, Res.bind_err, Res.bind_stuck, onBl_bl, andT, orT, notT, andV, orV, notV, tupM, lstM, toDs, toD, asD_d, asD_new, frzW_d, newT, newL, slM, slW, someO, noneO, ixW, addW, subW, mulW, modW, cmpW, negW, lenW, intW, tabW, isNonB, isNonW, isNon_d, List.map_cons, List.map_nil, List.length_cons, List.length_nil, List.replicate, List.append_nil, List.nil_append, List.cons_append, List.getElem?_cons_zero, List.getElem?_cons_succ, List.set_cons_zero, List.set_cons_succ, Nat.reduceAdd, Nat.reduceSub, if_true, if_false, ite_true, ite_false, Bool.not_true, Bool.not_false, Bool.and_true, Bool.and_false, Bool.false_eq_true, reduceIte, fin_same, finE_same, fin_new, atI_0, atI_1, atI_2, eqW_ofs, look_ofs, look_nil, dspC, newDc, inW, Option.isSome_some, Option.isSome_none, itM, forM, items_dl, items_dt, methL, methD, arg0, arg1, arg2, appendW, popW, listW, get_new, set_new, isLst_new, pow109, String.reduceBEq, String.reduceEq, Bool.false_or, Bool.true_or, Bool.or_false, Bool.or_true, E, eqW_int, h1'])).trans rfl)).trans ?_
        exact seq_nx ((if_f (s := S13 t3 B) (by simp only [szs, fnM, rawM, seqM, ifM, tvM, truM, binM, unM, appM, consA, nilA, varM, conM, retM, retN, asgM, expM, raiseM, passS, callF, app1, app2, noExc, isExc_d, isExc_c, bindS_ok, bindS_err, bindS_stuck, Res.bind_ok, Res.bind_err, Res.bind_stuck, onBl_bl, andT, orT, notT, andV, orV, notV, tupM, lstM, toDs, toD, asD_d, asD_new, frzW_d, newT, newL, slM, slW, someO, noneO, ixW, addW, subW, mulW, modW, cmpW, negW, lenW, intW, tabW, isNonB, isNonW, isNon_d, List.map_cons, List.map_nil, List.length_cons, List.length_nil, List.replicate, List.append_nil, List.nil_append, List.cons_append, List.getElem?_cons_zero, List.getElem?_cons_succ, List.set_cons_zero, List.set_cons_succ, Nat.reduceAdd, Nat.reduceSub, if_true, if_false, ite_true, ite_false, Bool.not_true, Bool.not_false, Bool.and_true, Bool.and_false, Bool.false_eq_true, reduceIte, fin_same, finE_same, fin_new, atI_0, atI_1, atI_2, eqW_ofs, look_ofs, look_nil, dspC, newDc, inW, Option.isSome_some, Option.isSome_none, itM, forM, items_dl, items_dt, methL, methD, arg0, arg1, arg2, appendW, popW, listW, get_new, set_new, isLst_new, pow109, String.reduceBEq, String.reduceEq, Bool.false_or, Bool.true_or, Bool.or_false, Bool.or_true, E, eqW_int, h2'])).trans rfl)
  -- the run
  have happ : encV B ++ [D.int c] = encV (B ++ [.i (c : Int)]) := by simp [Val.enc]
  have hz : (encV (B ++ [.i (c : Int)])).length ≤ sizeLine := small (by rw [List.length_map, List.length_append, List.length_singleton]; omega)
  have hokc : ∀ v ∈ B ++ [Val.i (c : Int)], v.ok := fun v hv => by
    rcases List.mem_append.mp hv with h | h
    · exact hB v h
    · rw [List.mem_singleton] at h; subst h; exact ⟨by omega, by omega⟩
  obtain ⟨rn1, rn2⟩ := go_run hP (st := S13 t4 B) (pw := .d pd) (w := .d (.lst (encV (B ++ [.i (c : Int)])))) (n := n0) (fuel := fuel) rfl (fun i hi => by cases hi) rfl hokc hC.h0 (by simp) (cnt_all hC c (by omega) B []) (by rw [List.length_append, List.length_singleton]; omega) (by omega)
  have hB4 : asD (S13 t4 B) (.c 1) = some (.lst (encV B)) := rfl
  let R : Int := resT lv s c
  have hRok : (Val.i R).ok := by
    show 0 ≤ resT lv s c ∧ resT lv s c < 1000000000
    cases lv with
    | true =>
      have := triN_le c (by omega)
      show 0 ≤ (triN c : Int) ∧ (triN c : Int) < 1000000000
      omega
    | false => exact ⟨Int.emod_nonneg _ (by decide), Int.emod_lt_of_pos _ (by decide)⟩
  unfold s_law_k13
  refine (fnM_ret (st' := S13 t4 B) rfl ?_).trans (fin_nil _ _)
  unfold b_law_k13
  refine (seq_nx (e := [some (.d (.scr ns)), some (.c 0), none, none, none, none, none, none, none, none, none, none, none, none]) (s := [tc 0]) (by simp only [szs, fnM, rawM, seqM, ifM, tvM, truM, binM, unM, appM, consA, nilA, varM, conM, retM, retN, asgM, expM, raiseM, passS, callF, app1, app2, noExc, isExc_d, isExc_c, bindS_ok, bindS_err, bindS_stuck, Res.bind_ok, Res.bind_err, Res.bind_stuck, onBl_bl, andT, orT, notT, andV, orV, notV, tupM, lstM, toDs, toD, asD_d, asD_new, frzW_d, newT, newL, slM, slW, someO, noneO, ixW, addW, subW, mulW, modW, cmpW, negW, lenW, intW, tabW, isNonB, isNonW, isNon_d, List.map_cons, List.map_nil, List.length_cons, List.length_nil, List.replicate, List.append_nil, List.nil_append, List.cons_append, List.getElem?_cons_zero, List.getElem?_cons_succ, List.set_cons_zero, List.set_cons_succ, Nat.reduceAdd, Nat.reduceSub, if_true, if_false, ite_true, ite_false, Bool.not_true, Bool.not_false, Bool.and_true, Bool.and_false, Bool.false_eq_true, reduceIte, fin_same, finE_same, fin_new, atI_0, atI_1, atI_2, eqW_ofs, look_ofs, look_nil, dspC, newDc, inW, Option.isSome_some, Option.isSome_none, itM, forM, items_dl, items_dt, methL, methD, arg0, arg1, arg2, appendW, popW, listW, get_new, set_new, isLst_new, pow109, String.reduceBEq, String.reduceEq, Bool.false_or, Bool.true_or, Bool.or_false, Bool.or_true])).trans ?_
  refine (seq_nx (e := E none none none none none none none none none none none) (s := [tc 2]) (by simp only [szs, fnM, rawM, seqM, ifM, tvM, truM, binM, unM, appM, consA, nilA, varM, conM, retM, retN, asgM, expM, raiseM, passS, callF, app1, app2, noExc, isExc_d, isExc_c, bindS_ok, bindS_err, bindS_stuck, Res.bind_ok, Res.bind_err, Res.bind_stuck, onBl_bl, andT, orT, notT, andV, orV, notV, tupM, lstM, toDs, toD, asD_d, asD_new, frzW_d, newT, newL, slM, slW, someO, noneO, ixW, addW, subW, mulW, modW, cmpW, negW, lenW, intW, tabW, isNonB, isNonW, isNon_d, List.map_cons, List.map_nil, List.length_cons, List.length_nil, List.replicate, List.append_nil, List.nil_append, List.cons_append, List.getElem?_cons_zero, List.getElem?_cons_succ, List.set_cons_zero, List.set_cons_succ, Nat.reduceAdd, Nat.reduceSub, if_true, if_false, ite_true, ite_false, Bool.not_true, Bool.not_false, Bool.and_true, Bool.and_false, Bool.false_eq_true, reduceIte, fin_same, finE_same, fin_new, atI_0, atI_1, atI_2, eqW_ofs, look_ofs, look_nil, dspC, newDc, inW, Option.isSome_some, Option.isSome_none, itM, forM, items_dl, items_dt, methL, methD, arg0, arg1, arg2, appendW, popW, listW, get_new, set_new, isLst_new, pow109, String.reduceBEq, String.reduceEq, Bool.false_or, Bool.true_or, Bool.or_false, Bool.or_true, E, ev'])).trans ?_
  refine (seq_nx (e := E (some (.d (.int m0))) none none none none none none none none none none) (s := [tc 3]) (by
    have em0' : s_draw [.d (.scr ns), .c 0, .d (.int 12)] [tc 2] = .ok (.d (.int m0)) [tc 3] := em0
    simp only [szs, fnM, rawM, seqM, ifM, tvM, truM, binM, unM, appM, consA, nilA, varM, conM, retM, retN, asgM, expM, raiseM, passS, callF, app1, app2, noExc, isExc_d, isExc_c, bindS_ok, bindS_err, bindS_stuck, Res.bind_ok, Res.bind_err, Res.bind_stuck, onBl_bl, andT, orT, notT, andV, orV, notV, tupM, lstM, toDs, toD, asD_d, asD_new, frzW_d, newT, newL, slM, slW, someO, noneO, ixW, addW, subW, mulW, modW, cmpW, negW, lenW, intW, tabW, isNonB, isNonW, isNon_d, List.map_cons, List.map_nil, List.length_cons, List.length_nil, List.replicate, List.append_nil, List.nil_append, List.cons_append, List.getElem?_cons_zero, List.getElem?_cons_succ, List.set_cons_zero, List.set_cons_succ, Nat.reduceAdd, Nat.reduceSub, if_true, if_false, ite_true, ite_false, Bool.not_true, Bool.not_false, Bool.and_true, Bool.and_false, Bool.false_eq_true, reduceIte, fin_same, finE_same, fin_new, atI_0, atI_1, atI_2, eqW_ofs, look_ofs, look_nil, dspC, newDc, inW, Option.isSome_some, Option.isSome_none, itM, forM, items_dl, items_dt, methL, methD, arg0, arg1, arg2, appendW, popW, listW, get_new, set_new, isLst_new, pow109, String.reduceBEq, String.reduceEq, Bool.false_or, Bool.true_or, Bool.or_false, Bool.or_true, E, em0'])).trans ?_
  refine (seq_nx eM).trans ?_
  refine (seq_nx (e := E (some (.d (.int c))) (some (.d (.int way))) none none none none none none none none none) (s := [tc (t1 + 1)]) (by simp only [szs, fnM, rawM, seqM, ifM, tvM, truM, binM, unM, appM, consA, nilA, varM, conM, retM, retN, asgM, expM, raiseM, passS, callF, app1, app2, noExc, isExc_d, isExc_c, bindS_ok, bindS_err, bindS_stuck, Res.bind_ok, Res.bind_err, Res.bind_stuck, onBl_bl, andT, orT, notT, andV, orV, notV, tupM, lstM, toDs, toD, asD_d, asD_new, frzW_d, newT, newL, slM, slW, someO, noneO, ixW, addW, subW, mulW, modW, cmpW, negW, lenW, intW, tabW, isNonB, isNonW, isNon_d, List.map_cons, List.map_nil, List.length_cons, List.length_nil, List.replicate, List.append_nil, List.nil_append, List.cons_append, List.getElem?_cons_zero, List.getElem?_cons_succ, List.set_cons_zero, List.set_cons_succ, Nat.reduceAdd, Nat.reduceSub, if_true, if_false, ite_true, ite_false, Bool.not_true, Bool.not_false, Bool.and_true, Bool.and_false, Bool.false_eq_true, reduceIte, fin_same, finE_same, fin_new, atI_0, atI_1, atI_2, eqW_ofs, look_ofs, look_nil, dspC, newDc, inW, Option.isSome_some, Option.isSome_none, itM, forM, items_dl, items_dt, methL, methD, arg0, arg1, arg2, appendW, popW, listW, get_new, set_new, isLst_new, pow109, String.reduceBEq, String.reduceEq, Bool.false_or, Bool.true_or, Bool.or_false, Bool.or_true, E, ew])).trans ?_
  refine (seq_nx (e := E (some (.d (.int c))) (some (.d (.int way))) x5 none none none none none none none none) (s := [tc (t1 + 1 + 1)]) (by simp only [szs, fnM, rawM, seqM, ifM, tvM, truM, binM, unM, appM, consA, nilA, varM, conM, retM, retN, asgM, expM, raiseM, passS, callF, app1, app2, noExc, isExc_d, isExc_c, bindS_ok, bindS_err, bindS_stuck, Res.bind_ok, Res.bind_err, Res.bind_stuck, onBl_bl, andT, orT, notT, andV, orV, notV, tupM, lstM, toDs, toD, asD_d, asD_new, frzW_d, newT, newL, slM, slW, someO, noneO, ixW, addW, subW, mulW, modW, cmpW, negW, lenW, intW, tabW, isNonB, isNonW, isNon_d, List.map_cons, List.map_nil, List.length_cons, List.length_nil, List.replicate, List.append_nil, List.nil_append, List.cons_append, List.getElem?_cons_zero, List.getElem?_cons_succ, List.set_cons_zero, List.set_cons_succ, Nat.reduceAdd, Nat.reduceSub, if_true, if_false, ite_true, ite_false, Bool.not_true, Bool.not_false, Bool.and_true, Bool.and_false, Bool.false_eq_true, reduceIte, fin_same, finE_same, fin_new, atI_0, atI_1, atI_2, eqW_ofs, look_ofs, look_nil, dspC, newDc, inW, Option.isSome_some, Option.isSome_none, itM, forM, items_dl, items_dt, methL, methD, arg0, arg1, arg2, appendW, popW, listW, get_new, set_new, isLst_new, pow109, String.reduceBEq, String.reduceEq, Bool.false_or, Bool.true_or, Bool.or_false, Bool.or_true, E, el, eqW_int, hlv, x5])).trans ?_
  refine (seq_nx (e := E (some (.d (.int c))) (some (.d (.int way))) x5 x6 x7 none none none none none none) (s := [tc t2]) (by
    simp only [x6, x7, pd, P]
    generalize encS [n0, n1, n2] = L at eP
    generalize encP (cntP n0 n1 n2 lv s) = Q at eP
    simp only [szs, fnM, rawM, seqM, ifM, tvM, truM, binM, unM, appM, consA, nilA, varM, conM, retM, retN, asgM, expM, raiseM, passS, callF, app1, app2, noExc, isExc_d, isExc_c, bindS_ok, bindS_err, bindS_stuck, Res.bind_ok, Res.bind_err, Res.bind_stuck, onBl_bl, andT, orT, notT, andV, orV, notV, tupM, lstM, toDs, toD, asD_d, asD_new, frzW_d, newT, newL, slM, slW, someO, noneO, ixW, addW, subW, mulW, modW, cmpW, negW, lenW, intW, tabW, isNonB, isNonW, isNon_d, List.map_cons, List.map_nil, List.length_cons, List.length_nil, List.replicate, List.append_nil, List.nil_append, List.cons_append, List.getElem?_cons_zero, List.getElem?_cons_succ, List.set_cons_zero, List.set_cons_succ, Nat.reduceAdd, Nat.reduceSub, if_true, if_false, ite_true, ite_false, Bool.not_true, Bool.not_false, Bool.and_true, Bool.and_false, Bool.false_eq_true, reduceIte, fin_same, finE_same, fin_new, atI_0, atI_1, atI_2, eqW_ofs, look_ofs, look_nil, dspC, newDc, inW, Option.isSome_some, Option.isSome_none, itM, forM, items_dl, items_dt, methL, methD, arg0, arg1, arg2, appendW, popW, listW, get_new, set_new, isLst_new, pow109, String.reduceBEq, String.reduceEq, Bool.false_or, Bool.true_or, Bool.or_false, Bool.or_true, E, x5, asgTM, eP, sets])).trans ?_
  refine (seq_nx (e := E (some (.d (.int c))) (some (.d (.int way))) x5 x6 x7 (some (.c 1)) none none none none none) (s := S13 t2 []) (by simp only [szs, fnM, rawM, seqM, ifM, tvM, truM, binM, unM, appM, consA, nilA, varM, conM, retM, retN, asgM, expM, raiseM, passS, callF, app1, app2, noExc, isExc_d, isExc_c, bindS_ok, bindS_err, bindS_stuck, Res.bind_ok, Res.bind_err, Res.bind_stuck, onBl_bl, andT, orT, notT, andV, orV, notV, tupM, lstM, toDs, toD, asD_d, asD_new, frzW_d, newT, newL, slM, slW, someO, noneO, ixW, addW, subW, mulW, modW, cmpW, negW, lenW, intW, tabW, isNonB, isNonW, isNon_d, List.map_cons, List.map_nil, List.length_cons, List.length_nil, List.replicate, List.append_nil, List.nil_append, List.cons_append, List.getElem?_cons_zero, List.getElem?_cons_succ, List.set_cons_zero, List.set_cons_succ, Nat.reduceAdd, Nat.reduceSub, if_true, if_false, ite_true, ite_false, Bool.not_true, Bool.not_false, Bool.and_true, Bool.and_false, Bool.false_eq_true, reduceIte, fin_same, finE_same, fin_new, atI_0, atI_1, atI_2, eqW_ofs, look_ofs, look_nil, dspC, newDc, inW, Option.isSome_some, Option.isSome_none, itM, forM, items_dl, items_dt, methL, methD, arg0, arg1, arg2, appendW, popW, listW, get_new, set_new, isLst_new, pow109, String.reduceBEq, String.reduceEq, Bool.false_or, Bool.true_or, Bool.or_false, Bool.or_true, E, szs] <;> rfl)).trans ?_
  refine (seq_nx eB).trans ?_
  refine (seq_nx (e := E (some (.d (.int c))) (some (.d (.int way))) x5 x6 x7 (some (.c 1)) x9 x10 none none none) (s := S13 t3 B) (by simp only [szs, fnM, rawM, seqM, ifM, tvM, truM, binM, unM, appM, consA, nilA, varM, conM, retM, retN, asgM, expM, raiseM, passS, callF, app1, app2, noExc, isExc_d, isExc_c, bindS_ok, bindS_err, bindS_stuck, Res.bind_ok, Res.bind_err, Res.bind_stuck, onBl_bl, andT, orT, notT, andV, orV, notV, tupM, lstM, toDs, toD, asD_d, asD_new, frzW_d, newT, newL, slM, slW, someO, noneO, ixW, addW, subW, mulW, modW, cmpW, negW, lenW, intW, tabW, isNonB, isNonW, isNon_d, List.map_cons, List.map_nil, List.length_cons, List.length_nil, List.replicate, List.append_nil, List.nil_append, List.cons_append, List.getElem?_cons_zero, List.getElem?_cons_succ, List.set_cons_zero, List.set_cons_succ, Nat.reduceAdd, Nat.reduceSub, if_true, if_false, ite_true, ite_false, Bool.not_true, Bool.not_false, Bool.and_true, Bool.and_false, Bool.false_eq_true, reduceIte, fin_same, finE_same, fin_new, atI_0, atI_1, atI_2, eqW_ofs, look_ofs, look_nil, dspC, newDc, inW, Option.isSome_some, Option.isSome_none, itM, forM, items_dl, items_dt, methL, methD, arg0, arg1, arg2, appendW, popW, listW, get_new, set_new, isLst_new, pow109, String.reduceBEq, String.reduceEq, Bool.false_or, Bool.true_or, Bool.or_false, Bool.or_true, E, hm7, hst, x10])).trans ?_
  refine (seq_nx (e := E (some (.d (.int c))) (some (.d (.int way))) x5 x6 x7 (some (.c 1)) x9 x10 none none none) (s := S13 t3 B) (by
    generalize S13 t3 B = S at er eh
    have h7 : varM 7 (E (some (.d (.int c))) (some (.d (.int way))) x5 x6 x7 (some (.c 1)) x9 x10 none none none) S = .ok (.d (.lst (encS [n0, n1, n2]))) S := rfl
    have h6 : varM 6 (E (some (.d (.int c))) (some (.d (.int way))) x5 x6 x7 (some (.c 1)) x9 x10 none none none) S = .ok (.d pd) S := rfl
    generalize E (some (.d (.int c))) (some (.d (.int way))) x5 x6 x7 (some (.c 1)) x9 x10 none none none = env at h6 h7
    generalize encS [n0, n1, n2] = L at h7 a0
    generalize pd = q at er eh h6
    simp only [ifM, orT, tvM, binM, callF, consA, nilA, h6, h7, conM, Res.bind_ok, ixW, asD_d, a0, noExc, isExc_d, Bool.not_false, Bool.and_true, if_true, er, eh, isBlW, isNonB, isNonW, isNon_d, onBl_bl, decide_true, Bool.not_true, Bool.false_eq_true, if_false, bindS_ok, passS])).trans ?_
  refine (eF _).trans ?_
  -- the end
  have h7 : ∀ x11 x12 x13 S, varM 7 (E (some (.d (.int c))) (some (.d (.int way))) x5 x6 x7 (some (.c 1)) x9 x10 x11 x12 x13) S = .ok (.d (.lst (encS [n0, n1, n2]))) S := fun _ _ _ _ => rfl
  by_cases hlt : fuel < st
  · have erun := run_3_dry rfl rfl (rn2 hlt)
    have hd : decide ((fuel : Int) < (st : Int)) = true := decide_eq_true (by omega)
    refine (seq_nx (e := E (some (.d (.int c))) (some (.d (.int way))) x5 x6 x7 (some (.c 1)) x9 x10 (some (.d (.int (fuel : Nat)))) (some (.d (.str "dry"))) none) (s := S13 t4 B) (by
      generalize S13 t4 B = S at hB4 erun
      simp only [x6, x7]
      generalize encS [n0, n1, n2] = L at a0
      simp only [szs, fnM, rawM, seqM, ifM, tvM, truM, binM, unM, appM, consA, nilA, varM, conM, retM, retN, asgM, expM, raiseM, passS, callF, app1, app2, noExc, isExc_d, isExc_c, bindS_ok, bindS_err, bindS_stuck, Res.bind_ok, Res.bind_err, Res.bind_stuck, onBl_bl, andT, orT, notT, andV, orV, notV, tupM, lstM, toDs, toD, asD_d, asD_new, frzW_d, newT, newL, slM, slW, someO, noneO, ixW, addW, subW, mulW, modW, cmpW, negW, lenW, intW, tabW, isNonB, isNonW, isNon_d, List.map_cons, List.map_nil, List.length_cons, List.length_nil, List.replicate, List.append_nil, List.nil_append, List.cons_append, List.getElem?_cons_zero, List.getElem?_cons_succ, List.set_cons_zero, List.set_cons_succ, Nat.reduceAdd, Nat.reduceSub, if_true, if_false, ite_true, ite_false, Bool.not_true, Bool.not_false, Bool.and_true, Bool.and_false, Bool.false_eq_true, reduceIte, fin_same, finE_same, fin_new, atI_0, atI_1, atI_2, eqW_ofs, look_ofs, look_nil, dspC, newDc, inW, Option.isSome_some, Option.isSome_none, itM, forM, items_dl, items_dt, methL, methD, arg0, arg1, arg2, appendW, popW, listW, get_new, set_new, isLst_new, pow109, String.reduceBEq, String.reduceEq, Bool.false_or, Bool.true_or, Bool.or_false, Bool.or_true, E, a0, hB4, happ, hz, szs, erun])).trans ?_
    refine seq_ret ((if_t (s := S13 t4 B) (by
      simp only [x10]
      simp only [szs, fnM, rawM, seqM, ifM, tvM, truM, binM, unM, appM, consA, nilA, varM, conM, retM, retN, asgM, expM, raiseM, passS, callF, app1, app2, noExc, isExc_d, isExc_c, bindS_ok, bindS_err, bindS_stuck, Res.bind_ok, Res.bind_err, Res.bind_stuck, onBl_bl, andT, orT, notT, andV, orV, notV, tupM, lstM, toDs, toD, asD_d, asD_new, frzW_d, newT, newL, slM, slW, someO, noneO, ixW, addW, subW, mulW, modW, cmpW, negW, lenW, intW, tabW, isNonB, isNonW, isNon_d, List.map_cons, List.map_nil, List.length_cons, List.length_nil, List.replicate, List.append_nil, List.nil_append, List.cons_append, List.getElem?_cons_zero, List.getElem?_cons_succ, List.set_cons_zero, List.set_cons_succ, Nat.reduceAdd, Nat.reduceSub, if_true, if_false, ite_true, ite_false, Bool.not_true, Bool.not_false, Bool.and_true, Bool.and_false, Bool.false_eq_true, reduceIte, fin_same, finE_same, fin_new, atI_0, atI_1, atI_2, eqW_ofs, look_ofs, look_nil, dspC, newDc, inW, Option.isSome_some, Option.isSome_none, itM, forM, items_dl, items_dt, methL, methD, arg0, arg1, arg2, appendW, popW, listW, get_new, set_new, isLst_new, pow109, String.reduceBEq, String.reduceEq, Bool.false_or, Bool.true_or, Bool.or_false, Bool.or_true, E, ltW, hd])).trans ?_)
    generalize S13 t4 B = S
    simp only [szs, fnM, rawM, seqM, ifM, tvM, truM, binM, unM, appM, consA, nilA, varM, conM, retM, retN, asgM, expM, raiseM, passS, callF, app1, app2, noExc, isExc_d, isExc_c, bindS_ok, bindS_err, bindS_stuck, Res.bind_ok, Res.bind_err, Res.bind_stuck, onBl_bl, andT, orT, notT, andV, orV, notV, tupM, lstM, toDs, toD, asD_d, asD_new, frzW_d, newT, newL, slM, slW, someO, noneO, ixW, addW, subW, mulW, modW, cmpW, negW, lenW, intW, tabW, isNonB, isNonW, isNon_d, List.map_cons, List.map_nil, List.length_cons, List.length_nil, List.replicate, List.append_nil, List.nil_append, List.cons_append, List.getElem?_cons_zero, List.getElem?_cons_succ, List.set_cons_zero, List.set_cons_succ, Nat.reduceAdd, Nat.reduceSub, if_true, if_false, ite_true, ite_false, Bool.not_true, Bool.not_false, Bool.and_true, Bool.and_false, Bool.false_eq_true, reduceIte, fin_same, finE_same, fin_new, atI_0, atI_1, atI_2, eqW_ofs, look_ofs, look_nil, dspC, newDc, inW, Option.isSome_some, Option.isSome_none, itM, forM, items_dl, items_dt, methL, methD, arg0, arg1, arg2, appendW, popW, listW, get_new, set_new, isLst_new, pow109, String.reduceBEq, String.reduceEq, Bool.false_or, Bool.true_or, Bool.or_false, Bool.or_true, E, isi_ss]
  · have erun := run_3_fin rfl rfl (rn1 (by omega))
    have hd : decide ((fuel : Int) < (st : Int)) = false := decide_eq_false (by omega)
    let x12 : Option W := some (.d (.lst (encV (B ++ [.i R]))))
    refine (seq_nx (e := E (some (.d (.int c))) (some (.d (.int way))) x5 x6 x7 (some (.c 1)) x9 x10 (some (.d (.int (fuel : Nat)))) x12 none) (s := S13 t4 B) (by
      generalize S13 t4 B = S at hB4 erun
      simp only [x6, x7]
      generalize encS [n0, n1, n2] = L at a0
      simp only [szs, fnM, rawM, seqM, ifM, tvM, truM, binM, unM, appM, consA, nilA, varM, conM, retM, retN, asgM, expM, raiseM, passS, callF, app1, app2, noExc, isExc_d, isExc_c, bindS_ok, bindS_err, bindS_stuck, Res.bind_ok, Res.bind_err, Res.bind_stuck, onBl_bl, andT, orT, notT, andV, orV, notV, tupM, lstM, toDs, toD, asD_d, asD_new, frzW_d, newT, newL, slM, slW, someO, noneO, ixW, addW, subW, mulW, modW, cmpW, negW, lenW, intW, tabW, isNonB, isNonW, isNon_d, List.map_cons, List.map_nil, List.length_cons, List.length_nil, List.replicate, List.append_nil, List.nil_append, List.cons_append, List.getElem?_cons_zero, List.getElem?_cons_succ, List.set_cons_zero, List.set_cons_succ, Nat.reduceAdd, Nat.reduceSub, if_true, if_false, ite_true, ite_false, Bool.not_true, Bool.not_false, Bool.and_true, Bool.and_false, Bool.false_eq_true, reduceIte, fin_same, finE_same, fin_new, atI_0, atI_1, atI_2, eqW_ofs, look_ofs, look_nil, dspC, newDc, inW, Option.isSome_some, Option.isSome_none, itM, forM, items_dl, items_dt, methL, methD, arg0, arg1, arg2, appendW, popW, listW, get_new, set_new, isLst_new, pow109, String.reduceBEq, String.reduceEq, Bool.false_or, Bool.true_or, Bool.or_false, Bool.or_true, E, a0, hB4, happ, hz, szs, erun, x12, R])).trans ?_
    refine (seq_nx (e := E (some (.d (.int c))) (some (.d (.int way))) x5 x6 x7 (some (.c 1)) x9 x10 (some (.d (.int (fuel : Nat)))) x12 none) (s := S13 t4 B) ((if_f (s := S13 t4 B) (by
      simp only [x10]
      simp only [szs, fnM, rawM, seqM, ifM, tvM, truM, binM, unM, appM, consA, nilA, varM, conM, retM, retN, asgM, expM, raiseM, passS, callF, app1, app2, noExc, isExc_d, isExc_c, bindS_ok, bindS_err, bindS_stuck, Res.bind_ok, Res.bind_err, Res.bind_stuck, onBl_bl, andT, orT, notT, andV, orV, notV, tupM, lstM, toDs, toD, asD_d, asD_new, frzW_d, newT, newL, slM, slW, someO, noneO, ixW, addW, subW, mulW, modW, cmpW, negW, lenW, intW, tabW, isNonB, isNonW, isNon_d, List.map_cons, List.map_nil, List.length_cons, List.length_nil, List.replicate, List.append_nil, List.nil_append, List.cons_append, List.getElem?_cons_zero, List.getElem?_cons_succ, List.set_cons_zero, List.set_cons_succ, Nat.reduceAdd, Nat.reduceSub, if_true, if_false, ite_true, ite_false, Bool.not_true, Bool.not_false, Bool.and_true, Bool.and_false, Bool.false_eq_true, reduceIte, fin_same, finE_same, fin_new, atI_0, atI_1, atI_2, eqW_ofs, look_ofs, look_nil, dspC, newDc, inW, Option.isSome_some, Option.isSome_none, itM, forM, items_dl, items_dt, methL, methD, arg0, arg1, arg2, appendW, popW, listW, get_new, set_new, isLst_new, pow109, String.reduceBEq, String.reduceEq, Bool.false_or, Bool.true_or, Bool.or_false, Bool.or_true, E, ltW, hd])).trans rfl)).trans ?_
    have hms : mulOk (c : Int) s = true := mulOk_r (by omega) (by omega)
    have hmc : mulOk (c : Int) ((c : Int) + 1) = true := mulOk_r (by omega) (by omega)
    have hf2 : fdvOk 2 = true := fdvOk_of (by decide) (by decide)
    have htri : (c : Int) * ((c : Int) + 1) / 2 = (triN c : Int) := by
      have h := triN_eq c
      have h2 : ((c * (c + 1) : Nat) : Int) = (c : Int) * ((c : Int) + 1) := by rw [Int.natCast_mul]; rfl
      rw [← h2, ← h]
      omega
    refine (seq_nx (e := E (some (.d (.int c))) (some (.d (.int way))) x5 x6 x7 (some (.c 1)) x9 x10 (some (.d (.int (fuel : Nat)))) x12 (some (.d (.int ((c : Int) * s % 1000000000))))) (s := S13 t4 B) (by
      generalize S13 t4 B = S
      simp only [szs, fnM, rawM, seqM, ifM, tvM, truM, binM, unM, appM, consA, nilA, varM, conM, retM, retN, asgM, expM, raiseM, passS, callF, app1, app2, noExc, isExc_d, isExc_c, bindS_ok, bindS_err, bindS_stuck, Res.bind_ok, Res.bind_err, Res.bind_stuck, onBl_bl, andT, orT, notT, andV, orV, notV, tupM, lstM, toDs, toD, asD_d, asD_new, frzW_d, newT, newL, slM, slW, someO, noneO, ixW, addW, subW, mulW, modW, cmpW, negW, lenW, intW, tabW, isNonB, isNonW, isNon_d, List.map_cons, List.map_nil, List.length_cons, List.length_nil, List.replicate, List.append_nil, List.nil_append, List.cons_append, List.getElem?_cons_zero, List.getElem?_cons_succ, List.set_cons_zero, List.set_cons_succ, Nat.reduceAdd, Nat.reduceSub, if_true, if_false, ite_true, ite_false, Bool.not_true, Bool.not_false, Bool.and_true, Bool.and_false, Bool.false_eq_true, reduceIte, fin_same, finE_same, fin_new, atI_0, atI_1, atI_2, eqW_ofs, look_ofs, look_nil, dspC, newDc, inW, Option.isSome_some, Option.isSome_none, itM, forM, items_dl, items_dt, methL, methD, arg0, arg1, arg2, appendW, popW, listW, get_new, set_new, isLst_new, pow109, String.reduceBEq, String.reduceEq, Bool.false_or, Bool.true_or, Bool.or_false, Bool.or_true, E, hms, show (0 : Int) < 1000000000 by decide])).trans ?_
    refine (seq_nx (e := E (some (.d (.int c))) (some (.d (.int way))) x5 x6 x7 (some (.c 1)) x9 x10 (some (.d (.int (fuel : Nat)))) x12 (some (.d (.int R)))) (s := S13 t4 B) (by
      generalize S13 t4 B = S
      simp only [x5, R]
      cases lv with
      | false => exact (if_f (s := S) (by simp only [szs, fnM, rawM, seqM, ifM, tvM, truM, binM, unM, appM, consA, nilA, varM, conM, retM, retN, asgM, expM, raiseM, passS, callF, app1, app2, noExc, isExc_d, isExc_c, bindS_ok, bindS_err, bindS_stuck, Res.bind_ok, Res.bind_err, Res.bind_stuck, onBl_bl, andT, orT, notT, andV, orV, notV, tupM, lstM, toDs, toD, asD_d, asD_new, frzW_d, newT, newL, slM, slW, someO, noneO, ixW, addW, subW, mulW, modW, cmpW, negW, lenW, intW, tabW, isNonB, isNonW, isNon_d, List.map_cons, List.map_nil, List.length_cons, List.length_nil, List.replicate, List.append_nil, List.nil_append, List.cons_append, List.getElem?_cons_zero, List.getElem?_cons_succ, List.set_cons_zero, List.set_cons_succ, Nat.reduceAdd, Nat.reduceSub, if_true, if_false, ite_true, ite_false, Bool.not_true, Bool.not_false, Bool.and_true, Bool.and_false, Bool.false_eq_true, reduceIte, fin_same, finE_same, fin_new, atI_0, atI_1, atI_2, eqW_ofs, look_ofs, look_nil, dspC, newDc, inW, Option.isSome_some, Option.isSome_none, itM, forM, items_dl, items_dt, methL, methD, arg0, arg1, arg2, appendW, popW, listW, get_new, set_new, isLst_new, pow109, String.reduceBEq, String.reduceEq, Bool.false_or, Bool.true_or, Bool.or_false, Bool.or_true, E, truM])).trans rfl
      | true =>
        refine (if_t (s := S) (by simp only [szs, fnM, rawM, seqM, ifM, tvM, truM, binM, unM, appM, consA, nilA, varM, conM, retM, retN, asgM, expM, raiseM, passS, callF, app1, app2, noExc, isExc_d, isExc_c, bindS_ok, bindS_err, bindS_stuck, Res.bind_ok, Res.bind_err, Res.bind_stuck, onBl_bl, andT, orT, notT, andV, orV, notV, tupM, lstM, toDs, toD, asD_d, asD_new, frzW_d, newT, newL, slM, slW, someO, noneO, ixW, addW, subW, mulW, modW, cmpW, negW, lenW, intW, tabW, isNonB, isNonW, isNon_d, List.map_cons, List.map_nil, List.length_cons, List.length_nil, List.replicate, List.append_nil, List.nil_append, List.cons_append, List.getElem?_cons_zero, List.getElem?_cons_succ, List.set_cons_zero, List.set_cons_succ, Nat.reduceAdd, Nat.reduceSub, if_true, if_false, ite_true, ite_false, Bool.not_true, Bool.not_false, Bool.and_true, Bool.and_false, Bool.false_eq_true, reduceIte, fin_same, finE_same, fin_new, atI_0, atI_1, atI_2, eqW_ofs, look_ofs, look_nil, dspC, newDc, inW, Option.isSome_some, Option.isSome_none, itM, forM, items_dl, items_dt, methL, methD, arg0, arg1, arg2, appendW, popW, listW, get_new, set_new, isLst_new, pow109, String.reduceBEq, String.reduceEq, Bool.false_or, Bool.true_or, Bool.or_false, Bool.or_true, E, truM])).trans ?_
        simp only [szs, fnM, rawM, seqM, ifM, tvM, truM, binM, unM, appM, consA, nilA, varM, conM, retM, retN, asgM, expM, raiseM, passS, callF, app1, app2, noExc, isExc_d, isExc_c, bindS_ok, bindS_err, bindS_stuck, Res.bind_ok, Res.bind_err, Res.bind_stuck, onBl_bl, andT, orT, notT, andV, orV, notV, tupM, lstM, toDs, toD, asD_d, asD_new, frzW_d, newT, newL, slM, slW, someO, noneO, ixW, addW, subW, mulW, modW, cmpW, negW, lenW, intW, tabW, isNonB, isNonW, isNon_d, List.map_cons, List.map_nil, List.length_cons, List.length_nil, List.replicate, List.append_nil, List.nil_append, List.cons_append, List.getElem?_cons_zero, List.getElem?_cons_succ, List.set_cons_zero, List.set_cons_succ, Nat.reduceAdd, Nat.reduceSub, if_true, if_false, ite_true, ite_false, Bool.not_true, Bool.not_false, Bool.and_true, Bool.and_false, Bool.false_eq_true, reduceIte, fin_same, finE_same, fin_new, atI_0, atI_1, atI_2, eqW_ofs, look_ofs, look_nil, dspC, newDc, inW, Option.isSome_some, Option.isSome_none, itM, forM, items_dl, items_dt, methL, methD, arg0, arg1, arg2, appendW, popW, listW, get_new, set_new, isLst_new, pow109, String.reduceBEq, String.reduceEq, Bool.false_or, Bool.true_or, Bool.or_false, Bool.or_true, E, hmc, fdivW, hf2, htri, resT])).trans ?_
    have happ2 : encV B ++ [D.int R] = encV (B ++ [.i R]) := by simp [Val.enc]
    have hz2 : (encV (B ++ [.i R])).length ≤ sizeLine := small (by rw [List.length_map, List.length_append, List.length_singleton]; omega)
    have hal := alike_ok (.d (.lst (encV (B ++ [.i R])))) (.d (.lst (encV (B ++ [.i R])))) (B ++ [.i R]) (S13 t4 B) rfl rfl (fun v hv => by
      rcases List.mem_append.mp hv with h | h
      · exact (hB v h).fine
      · rw [List.mem_singleton] at h; subst h; exact hRok.fine) (by rw [List.length_append, List.length_singleton]; omega)
    have hdeep := deep_ok hP hC hs hB4 hB (by omega) (c := c) (by omega)
    have hdeep' : s_deep [.d pd, .d (.lst (encS [n0, n1, n2])), .c 1, .d (.int c), .d (.bl lv), .d (.int s)] (S13 t4 B) = .ok (.d (.bl true)) (S13 t4 B) := hdeep
    generalize S13 t4 B = S at hB4 hal hdeep'
    simp only [x5, x6, x7, x12]
    generalize encS [n0, n1, n2] = L at hdeep'
    simp only [szs, fnM, rawM, seqM, ifM, tvM, truM, binM, unM, appM, consA, nilA, varM, conM, retM, retN, asgM, expM, raiseM, passS, callF, app1, app2, noExc, isExc_d, isExc_c, bindS_ok, bindS_err, bindS_stuck, Res.bind_ok, Res.bind_err, Res.bind_stuck, onBl_bl, andT, orT, notT, andV, orV, notV, tupM, lstM, toDs, toD, asD_d, asD_new, frzW_d, newT, newL, slM, slW, someO, noneO, ixW, addW, subW, mulW, modW, cmpW, negW, lenW, intW, tabW, isNonB, isNonW, isNon_d, List.map_cons, List.map_nil, List.length_cons, List.length_nil, List.replicate, List.append_nil, List.nil_append, List.cons_append, List.getElem?_cons_zero, List.getElem?_cons_succ, List.set_cons_zero, List.set_cons_succ, Nat.reduceAdd, Nat.reduceSub, if_true, if_false, ite_true, ite_false, Bool.not_true, Bool.not_false, Bool.and_true, Bool.and_false, Bool.false_eq_true, reduceIte, fin_same, finE_same, fin_new, atI_0, atI_1, atI_2, eqW_ofs, look_ofs, look_nil, dspC, newDc, inW, Option.isSome_some, Option.isSome_none, itM, forM, items_dl, items_dt, methL, methD, arg0, arg1, arg2, appendW, popW, listW, get_new, set_new, isLst_new, pow109, String.reduceBEq, String.reduceEq, Bool.false_or, Bool.true_or, Bool.or_false, Bool.or_true, E, hB4, happ2, hz2, szs, hal, hdeep']
end Py

namespace Py
open PySem L2 PySem.Spec PyProof.Rows
namespace Lk13
def top (i : Nat) : Stmt := PySem.Challenge.pw_stackproof_k13_counting.main.body.getD i (.Pass ⟨0, 0, 0, 0⟩)
structure Txt (w : World) (K : PySem.W.Frag) (mg : Str → Option Value) (P : Pm) (tW tP aS : Addr) : Prop where
  b_bool : mg "bool" = none
  b_int : mg "int" = none
  b_isinstance : mg "isinstance" = none
  b_len : mg "len" = none
  b_list : mg "list" = none
  b_max : mg "max" = none
  b_range : mg "range" = none
  b_str : mg "str" = none
  b_tuple : mg "tuple" = none
  b_zip : mg "zip" = none
  c_ROUND : ∃ t, mg "ROUND" = some (.int 1000000000 t)
  c_SIGNS : ∃ t, mg "SIGNS" = some (.int 60 t)
  n_frames : NoAttr K P.CM "frames"
  n_program : NoAttr K P.CM "program"
  n_stack : NoAttr K P.CM "stack"
  n_Apart : mg "Apart" = some (.ref (P.EC .apart))
  k_Apart : Catch K P (.ref (P.EC .apart)) [.apart]
  n_Dry : mg "Dry" = some (.ref (P.EC .dry))
  k_Dry : Catch K P (.ref (P.EC .dry)) [.dry]
  n_Empty : mg "Empty" = some (.ref (P.EC .empty))
  k_Empty : Catch K P (.ref (P.EC .empty)) [.empty]
  n_NoBlock : mg "NoBlock" = some (.ref (P.EC .block))
  k_NoBlock : Catch K P (.ref (P.EC .block)) [.block]
  n_WrongKind : mg "WrongKind" = some (.ref (P.EC .kind))
  k_WrongKind : Catch K P (.ref (P.EC .kind)) [.kind]
  g_PUTS : mg "PUTS" = some (.ref tP)
  t_PUTS : TabOk K w tP T_PUTS
  g_WANTS : mg "WANTS" = some (.ref tW)
  t_WANTS : TabOk K w tW T_WANTS
  x_Apart : ExF K mg P "Apart" .apart
  x_Dry : ExF K mg P "Dry" .dry
  x_Empty : ExF K mg P "Empty" .empty
  x_NoBlock : ExF K mg P "NoBlock" .block
  x_WrongKind : ExF K mg P "WrongKind" .kind
  cl : Cls K P.CM
  gM : mg "Machine" = some (.ref P.CM)
section
variable {Pg : Program} {w : World} {K : PySem.W.Frag} {mg : Str → Option Value} {base : Heap} {P : Pm} {tW tP aS : Addr}
theorem sc_draw : FnScope n_draw ["_law_script", "_law_tape", "_law_many"] (defScope (top 36)) := ⟨rfl, rfl, rfl, by decide +kernel, rfl, by decide +kernel, by decide +kernel⟩
theorem d_draw (T : Txt w K mg P tW tP aS) (hx : P.xa = none)  {f : Addr} {fd : FuncData} (F : L2.Fun K "_law_draw" "_law_draw" (top 36) f fd) : FnOk Pg w K mg base (L2.CX Pg w) 1 f fd ["_law_script", "_law_tape", "_law_many"] (spF K P 3 s_draw) :=
  okF (N := n_draw) (body := b_draw) (a := 3) (n := 5) F sc_draw rfl rfl hx fun cdv A outer s H E hr tk hp =>
  have hu : _ + 1 < cLine := hu_of hr
  have hu64 : _ + 64 < cLine := hr.units
(sss_cons (ss_setL (se_var 1) se_int (se_add false (se_ix hu (se_var 1) se_int) se_int))
 (sss_cons (ss_if (st_cmp op_le bo_cmp (se_ix hu (se_var 1) se_int) (se_len rfl T.b_len (sa_cons (se_var 0) sa_nil))) (sss_one (ss_ret (se_mod (se_ix hu (se_var 0) (se_sub (se_ix hu (se_var 1) se_int) se_int)) (se_var 2)))) sss_nil)
 (sss_cons (ss_asg (i := 3) sc_draw.nd rfl (Or.inl rfl) (se_len rfl T.b_len (sa_cons (se_var 0) sa_nil)))
 (sss_cons (ss_for hp rfl (si_it (se_slice false (se_var 0) so_none (so_some se_int))) (.name (i := 4) sc_draw.nd rfl (Or.inl rfl) (by first | exact .inl rfl | exact .inr rfl)) (sss_one (ss_asg (i := 3) sc_draw.nd rfl (Or.inl rfl) (se_mod (se_add false (se_mul false (se_var 3) se_int) (se_var 4)) se_int))))
 (sss_one (ss_ret (se_mod (se_mod (se_mul false (se_add false (se_var 3) se_int) (se_add false (se_mul false (se_ix hu (se_var 1) se_int) (se_ix hu (se_var 1) se_int)) se_int)) se_int) (se_var 2))))))))
theorem sc_words : FnScope n_words ["_law_cell", "_law_size"] (defScope (top 37)) := ⟨rfl, rfl, rfl, by decide +kernel, rfl, by decide +kernel, by decide +kernel⟩
theorem d_words (T : Txt w K mg P tW tP aS) (hx : P.xa = none)  {f : Addr} {fd : FuncData} (F : L2.Fun K "_law_words" "_law_words" (top 37) f fd) : FnOk Pg w K mg base (L2.CX Pg w) 1 f fd ["_law_cell", "_law_size"] (spF K P 2 s_words) :=
  okF (N := n_words) (body := b_words) (a := 2) (n := 4) F sc_words rfl rfl hx fun cdv A outer s H E hr tk hp =>
  have hu : _ + 1 < cLine := hu_of hr
  have hu64 : _ + 64 < cLine := hr.units
(sss_cons (ss_asg (i := 2) sc_words.nd rfl (Or.inr rfl) se_str)
 (sss_cons (ss_asg (i := 2) sc_words.nd rfl (Or.inr rfl) (se_add false (se_var 2) se_str))
 (sss_one (ss_ret (se_join (se_lc false rfl sc_words.nd (si_rng rfl T.b_range (se_var 1)) (blkOk_by (own := [("_law_k", 3)]) (N := n_words) (sc := defScope (top 37)) (by decide +kernel)) (fun _ _ _ _ _ => pg_name (i := 3) sc_words.nd rfl (Or.inl rfl)) (fun _ _ _ _ _ => spts_nil) (fun _ _ _ _ _ => (se_ix hu (se_var 2) (se_mod (se_add false (se_fdiv (se_var 0) (se_add false (se_var 3) se_int)) (se_mul false se_int (se_var 3))) se_int)))))))))
theorem sc_value : FnScope n_value ["_law_script", "_law_tape", "_law_kind"] (defScope (top 38)) := ⟨rfl, rfl, rfl, by decide +kernel, rfl, by decide +kernel, by decide +kernel⟩
theorem d_value (T : Txt w K mg P tW tP aS) (hx : P.xa = none) (C__law_draw : Cal Pg w K mg base P "_law_draw" 3 1 s_draw) (C__law_words : Cal Pg w K mg base P "_law_words" 2 1 s_words) {f : Addr} {fd : FuncData} (F : L2.Fun K "_law_value" "_law_value" (top 38) f fd) : FnOk Pg w K mg base (L2.CX Pg w) 2 f fd ["_law_script", "_law_tape", "_law_kind"] (spF K P 3 s_value) :=
  okF (N := n_value) (body := b_value) (a := 3) (n := 5) F sc_value rfl rfl hx fun cdv A outer s H E hr tk hp =>
  have hu : _ + 1 < cLine := hu_of hr
  have hu64 : _ + 64 < cLine := hr.units
(sss_cons (ss_asg (i := 3) sc_value.nd rfl (Or.inl rfl) (se_call C__law_draw A_draw (hr.mono (by decide)) rfl tk (sa_cons (se_var 0) (sa_cons (se_var 1) (sa_cons se_int sa_nil)))))
 (sss_cons (ss_asg (i := 4) sc_value.nd rfl (Or.inl rfl) (se_call C__law_draw A_draw (hr.mono (by decide)) rfl tk (sa_cons (se_var 0) (sa_cons (se_var 1) (sa_cons se_int sa_nil)))))
 (sss_cons (ss_if (st_eq hu64 (se_var 2) se_str) (sss_cons (ss_if (st_eq hu64 (se_var 4) se_int) (sss_one (ss_ret (se_call C__law_words A_words (hr.mono (by decide)) rfl tk (sa_cons (se_var 3) (sa_cons (se_add false se_int (se_mod (se_var 3) se_int)) sa_nil))))) sss_nil)
 (sss_one (ss_ret (se_call C__law_words A_words (hr.mono (by decide)) rfl tk (sa_cons (se_var 3) (sa_cons (se_mod (se_fdiv (se_var 3) se_int) se_int) sa_nil)))))) sss_nil)
 (sss_cons (ss_if (st_eq hu64 (se_var 4) se_int) (sss_one (ss_ret (se_sub se_int (se_mod (se_var 3) se_int)))) sss_nil)
 (sss_cons (ss_if (st_cmp op_lt bo_cmp (se_var 4) se_int) (sss_one (ss_ret (se_mod (se_var 3) se_int))) sss_nil)
 (sss_one (ss_ret (se_var 3))))))))
theorem sc_program_2 : FnScope n_program_2 ["_law_script", "_law_tape", "_law_some", "_law_leaves"] (defScope (top 40)) := ⟨rfl, rfl, rfl, by decide +kernel, rfl, by decide +kernel, by decide +kernel⟩
theorem d_program_2 (T : Txt w K mg P tW tP aS) (hx : P.xa = none) (C__law_words : Cal Pg w K mg base P "_law_words" 2 1 s_words) (C__law_draw : Cal Pg w K mg base P "_law_draw" 3 1 s_draw) {f : Addr} {fd : FuncData} (F : L2.Fun K "_law_program" "_law_program" (top 40) f fd) : FnOk Pg w K mg base (L2.CX Pg w) 2 f fd ["_law_script", "_law_tape", "_law_some", "_law_leaves"] (spF K P 4 s_program_2) :=
  okF (N := n_program_2) (body := b_program_2) (a := 4) (n := 11) F sc_program_2 rfl rfl hx fun cdv A outer s H E hr tk hp =>
  have hu : _ + 1 < cLine := hu_of hr
  have hu64 : _ + 64 < cLine := hr.units
(sss_cons (ss_asg (i := 4) sc_program_2.nd rfl (Or.inr rfl) (se_call C__law_words A_words (hr.mono (by decide)) rfl tk (sa_cons (se_call C__law_draw A_draw (hr.mono (by decide)) rfl tk (sa_cons (se_var 0) (sa_cons (se_var 1) (sa_cons se_int sa_nil)))) (sa_cons (se_ix hu (se_lst false (sa_cons se_int (sa_cons se_int (sa_cons se_int sa_nil)))) (se_call C__law_draw A_draw (hr.mono (by decide)) rfl tk (sa_cons (se_var 0) (sa_cons (se_var 1) (sa_cons se_int sa_nil))))) sa_nil))))
 (sss_cons (ss_asgLc false rfl sc_program_2.nd (iy := 5) rfl rfl (sw_true rfl rfl rfl (by decide +kernel)) (si_it (se_lst false (sa_cons se_str (sa_cons se_str (sa_cons se_str sa_nil))))) (blkOk_by (own := [("_law_letter", 10)]) (N := n_program_2) (sc := defScope (top 40)) (by decide +kernel)) (fun _ _ _ _ _ => pg_name (i := 10) sc_program_2.nd rfl (Or.inl rfl)) (fun _ _ _ _ _ => spts_nil) (fun _ _ _ _ _ => (se_add false (se_add false (se_var 4) (se_var 10)) (se_var 4))))
 (sss_cons (ss_asg (i := 6) sc_program_2.nd rfl (Or.inl rfl) (se_tup (sa_cons se_str sa_nil)))
 (sss_cons (ss_asg (i := 7) sc_program_2.nd rfl (Or.inl rfl) (se_lst false (sa_cons (se_tup (sa_cons se_str (sa_cons se_int sa_nil))) (sa_cons (se_tup (sa_cons se_str (sa_cons (se_ix hu (se_var 5) se_int) (sa_cons (se_ix hu (se_var 5) se_int) sa_nil)))) sa_nil))))
 (sss_cons (ss_asg (i := 8) sc_program_2.nd rfl (Or.inl rfl) (se_lst false (sa_cons (se_tup (sa_cons se_str (sa_cons se_int sa_nil))) (sa_cons (se_tup (sa_cons se_str sa_nil)) (sa_cons (se_tup (sa_cons se_str (sa_cons (se_ix hu (se_var 5) se_int) sa_nil))) (sa_cons (se_tup (sa_cons se_str (sa_cons (se_var 2) sa_nil))) (sa_cons (se_tup (sa_cons se_str sa_nil)) sa_nil)))))))
 (sss_cons (ss_if (st_tru (se_var 3)) (sss_one (ss_asg (i := 8) sc_program_2.nd rfl (Or.inl rfl) (se_lst false (sa_cons (se_tup (sa_cons se_str (sa_cons se_int sa_nil))) (sa_cons (se_tup (sa_cons se_str (sa_cons se_int sa_nil))) (sa_cons (se_tup (sa_cons se_str sa_nil)) (sa_cons (se_tup (sa_cons se_str (sa_cons (se_ix hu (se_var 5) se_int) sa_nil))) (sa_cons (se_tup (sa_cons se_str sa_nil)) sa_nil)))))))) sss_nil)
 (sss_cons (ss_asg (i := 9) sc_program_2.nd rfl (Or.inl rfl) (se_dnew true))
 (sss_cons (ss_setD hu (se_var 9) (se_ix hu (se_var 5) se_int) (se_tup (sa_cons (se_var 6) (sa_cons (se_var 6) (sa_cons (se_lst false sa_nil) sa_nil)))))
 (sss_cons (ss_setD hu (se_var 9) (se_ix hu (se_var 5) se_int) (se_tup (sa_cons (se_var 6) (sa_cons (se_var 6) (sa_cons (se_var 7) sa_nil)))))
 (sss_cons (ss_setD hu (se_var 9) (se_ix hu (se_var 5) se_int) (se_tup (sa_cons (se_var 6) (sa_cons (se_var 6) (sa_cons (se_var 8) sa_nil)))))
 (sss_one (ss_ret (se_tup (sa_cons (se_var 9) (sa_cons (se_var 5) sa_nil)))))))))))))))
theorem sc_p_block_of : FnScope n_p_block_of ["program", "name"] (defScope (top 21)) := ⟨rfl, rfl, rfl, by decide +kernel, rfl, by decide +kernel, by decide +kernel⟩
theorem d_p_block_of (T : Txt w K mg P tW tP aS) (hx : P.xa = none)  {f : Addr} {fd : FuncData} (F : L2.Fun K "block_of" "block_of" (top 21) f fd) : FnOk Pg w K mg base (L2.CX Pg w) 1 f fd ["program", "name"] (spF K P 2 s_p_block_of) :=
  okF (N := n_p_block_of) (body := b_p_block_of) (a := 2) (n := 2) F sc_p_block_of rfl rfl hx fun cdv A outer s H E hr tk hp =>
  have hu : _ + 1 < cLine := hu_of hr
  have hu64 : _ + 64 < cLine := hr.units
(sss_cons (ss_if (st_notIn hu (se_var 1) (se_var 0)) (sss_one (ss_raise rfl tk T.x_NoBlock rfl)) sss_nil)
 (sss_one (ss_ret (se_ix hu (se_var 0) (se_var 1)))))
theorem sc_m_leave : FnScope n_m_leave ["self"] (defScope (inClass (top 24) 1)) := ⟨rfl, rfl, rfl, by decide +kernel, rfl, by decide +kernel, by decide +kernel⟩
theorem d_m_leave (T : Txt w K mg P tW tP aS) (hx : P.xa = none)  {f : Addr} {fd : FuncData} (F : L2.Fun K "leave" "Machine.leave" (inClass (top 24) 1) f fd) : FnOk Pg w K mg base (L2.CX Pg w) 1 f fd ["self"] (spF K P 1 s_m_leave) :=
  okR (N := n_m_leave) (body := b_m_leave) (a := 1) (n := 1) F sc_m_leave rfl rfl hx fun cdv A outer s H E hr tk hp =>
  have hu : _ + 1 < cLine := hu_of hr
  have hu64 : _ + 64 < cLine := hr.units
(sss_one (ss_while 1000000 hp (st_w (sw_and (st_tru (se_fld T.cl T.n_frames (se_var 0))) (sw_and1 (st_eq hu64 (se_ix hu (se_ix hu (se_fld T.cl T.n_frames (se_var 0)) (se_neg se_int)) se_int) (se_len rfl T.b_len (sa_cons (se_ix hu (se_ix hu (se_fld T.cl T.n_program (se_var 0)) (se_ix hu (se_ix hu (se_fld T.cl T.n_frames (se_var 0)) (se_neg se_int)) se_int)) se_int) sa_nil)))))) (sss_one (ss_exp (se_pop (se_fld T.cl T.n_frames (se_var 0)))))))
theorem sc_m_init : FnScope n_m_init ["self", "program", "name", "stack"] (defScope (inClass (top 24) 0)) := ⟨rfl, rfl, rfl, by decide +kernel, rfl, by decide +kernel, by decide +kernel⟩
theorem d_m_init (T : Txt w K mg P tW tP aS) (hx : P.xa = none) (C_block_of : Cal Pg w K mg base P "block_of" 2 1 s_p_block_of) (C_leave : CalM Pg w K mg base P "leave" 1 1 s_m_leave) {f : Addr} {fd : FuncData} (F : L2.Fun K "__init__" "Machine.__init__" (inClass (top 24) 0) f fd) : FnOk Pg w K mg base (L2.CX Pg w) 2 f fd ["self", "program", "name", "stack"] (spF K P 4 s_m_init) :=
  okR (N := n_m_init) (body := b_m_init) (a := 4) (n := 4) F sc_m_init rfl rfl hx fun cdv A outer s H E hr tk hp =>
  have hu : _ + 1 < cLine := hu_of hr
  have hu64 : _ + 64 < cLine := hr.units
(sss_cons (ss_exp (se_call C_block_of A_p_block_of (hr.mono (by decide)) rfl tk (sa_cons (se_var 1) (sa_cons (se_var 2) sa_nil))))
 (sss_cons (ss_setF T.cl T.n_program (se_var 0) (se_var 1))
 (sss_cons (ss_setF T.cl T.n_stack (se_var 0) (se_list true rfl rfl T.b_list (sa_cons (se_var 3) sa_nil)))
 (sss_cons (ss_setF T.cl T.n_frames (se_var 0) (se_lst true (sa_cons (se_tup (sa_cons (se_var 2) (sa_cons se_int sa_nil))) sa_nil)))
 (sss_one (ss_exp (se_meth0 T.cl C_leave A_m_leave (hr.mono (by decide)) tk (se_var 0))))))))
theorem sc_m_over : FnScope n_m_over ["self"] (defScope (inClass (top 24) 2)) := ⟨rfl, rfl, rfl, by decide +kernel, rfl, by decide +kernel, by decide +kernel⟩
theorem d_m_over (T : Txt w K mg P tW tP aS) (hx : P.xa = none)  {f : Addr} {fd : FuncData} (F : L2.Fun K "over" "Machine.over" (inClass (top 24) 2) f fd) : FnOk Pg w K mg base (L2.CX Pg w) 1 f fd ["self"] (spF K P 1 s_m_over) :=
  okR (N := n_m_over) (body := b_m_over) (a := 1) (n := 1) F sc_m_over rfl rfl hx fun cdv A outer s H E hr tk hp =>
  have hu : _ + 1 < cLine := hu_of hr
  have hu64 : _ + 64 < cLine := hr.units
(sss_one (ss_ret (se_eq hu64 (se_len rfl T.b_len (sa_cons (se_fld T.cl T.n_frames (se_var 0)) sa_nil)) se_int)))
theorem sc_p_need : FnScope n_p_need ["kinds", "wanted"] (defScope (top 14)) := ⟨rfl, rfl, rfl, by decide +kernel, rfl, by decide +kernel, by decide +kernel⟩
theorem d_p_need (T : Txt w K mg P tW tP aS) (hx : P.xa = none)  {f : Addr} {fd : FuncData} (F : L2.Fun K "need" "need" (top 14) f fd) : FnOk Pg w K mg base (L2.CX Pg w) 1 f fd ["kinds", "wanted"] (spF K P 2 s_p_need) :=
  okF (N := n_p_need) (body := b_p_need) (a := 2) (n := 4) F sc_p_need rfl rfl hx fun cdv A outer s H E hr tk hp =>
  have hu : _ + 1 < cLine := hu_of hr
  have hu64 : _ + 64 < cLine := hr.units
(sss_cons (ss_if (st_cmp op_lt bo_cmp (se_len rfl T.b_len (sa_cons (se_var 0) sa_nil)) (se_len rfl T.b_len (sa_cons (se_var 1) sa_nil))) (sss_one (ss_raise rfl tk T.x_Empty rfl)) sss_nil)
 (sss_one (ss_for hp rfl (si_zip rfl T.b_zip (se_slice false (se_var 0) (so_some (se_sub (se_len rfl T.b_len (sa_cons (se_var 0) sa_nil)) (se_len rfl T.b_len (sa_cons (se_var 1) sa_nil)))) so_none) (se_var 1)) (.pair rfl sc_p_need.nd (.cons (i := 2) rfl (Or.inl rfl) (by first | exact .inl rfl | exact .inr rfl) rfl (.cons (i := 3) rfl (Or.inl rfl) (by first | exact .inl rfl | exact .inr rfl) rfl .nil)) rfl rfl) (sss_one (ss_if (st_w (sw_and (st_cmp op_notN bo_notN (se_var 3) se_non) (sw_and1 (st_ne hu64 (se_var 2) (se_var 3))))) (sss_one (ss_raise rfl tk T.x_WrongKind rfl)) sss_nil)))))
theorem sc_p_wants : FnScope n_p_wants ["row"] (defScope (top 13)) := ⟨rfl, rfl, rfl, by decide +kernel, rfl, by decide +kernel, by decide +kernel⟩
theorem d_p_wants (T : Txt w K mg P tW tP aS) (hx : P.xa = none)  {f : Addr} {fd : FuncData} (F : L2.Fun K "wants" "wants" (top 13) f fd) : FnOk Pg w K mg base (L2.CX Pg w) 1 f fd ["row"] (spF K P 1 s_p_wants) :=
  okF (N := n_p_wants) (body := b_p_wants) (a := 1) (n := 1) F sc_p_wants rfl rfl hx fun cdv A outer s H E hr tk hp =>
  have hu : _ + 1 < cLine := hu_of hr
  have hu64 : _ + 64 < cLine := hr.units
(sss_cons (ss_if (st_eq hu64 (se_ix hu (se_var 0) se_int) se_str) (sss_one (ss_ret (se_mul false (se_tup (sa_cons se_non sa_nil)) (se_add false (se_ix hu (se_var 0) se_int) se_int)))) sss_nil)
 (sss_one (ss_ret (se_tab rfl T.g_WANTS T.t_WANTS (se_ix hu (se_var 0) se_int)))))
theorem sc_p_kind_of : FnScope n_p_kind_of ["value"] (defScope (top 11)) := ⟨rfl, rfl, rfl, by decide +kernel, rfl, by decide +kernel, by decide +kernel⟩
theorem d_p_kind_of (T : Txt w K mg P tW tP aS) (hx : P.xa = none)  {f : Addr} {fd : FuncData} (F : L2.Fun K "kind_of" "kind_of" (top 11) f fd) : FnOk Pg w K mg base (L2.CX Pg w) 1 f fd ["value"] (spF K P 1 s_p_kind_of) :=
  okF (N := n_p_kind_of) (body := b_p_kind_of) (a := 1) (n := 1) F sc_p_kind_of rfl rfl hx fun cdv A outer s H E hr tk hp =>
  have hu : _ + 1 < cLine := hu_of hr
  have hu64 : _ + 64 < cLine := hr.units
(sss_cons (ss_if (st_tv (se_isi (u := "str") (by decide +kernel) rfl T.b_isinstance rfl T.b_str bt_str (se_var 0))) (sss_one (ss_ret se_str)) sss_nil)
 (sss_one (ss_ret se_str)))
theorem sc_p_kinds_of : FnScope n_p_kinds_of ["stack"] (defScope (top 12)) := ⟨rfl, rfl, rfl, by decide +kernel, rfl, by decide +kernel, by decide +kernel⟩
theorem d_p_kinds_of (T : Txt w K mg P tW tP aS) (hx : P.xa = none) (C_kind_of : Cal Pg w K mg base P "kind_of" 1 1 s_p_kind_of) {f : Addr} {fd : FuncData} (F : L2.Fun K "kinds_of" "kinds_of" (top 12) f fd) : FnOk Pg w K mg base (L2.CX Pg w) 2 f fd ["stack"] (spF K P 1 s_p_kinds_of) :=
  okF (N := n_p_kinds_of) (body := b_p_kinds_of) (a := 1) (n := 2) F sc_p_kinds_of rfl rfl hx fun cdv A outer s H E hr tk hp =>
  have hu : _ + 1 < cLine := hu_of hr
  have hu64 : _ + 64 < cLine := hr.units
(sss_one (ss_ret (se_tuple rfl T.b_tuple (sa_cons (se_lc false rfl sc_p_kinds_of.nd (si_it (se_var 0)) (blkOk_by (own := [("value", 1)]) (N := n_p_kinds_of) (sc := defScope (top 12)) (by decide +kernel)) (fun _ _ _ _ _ => pg_name (i := 1) sc_p_kinds_of.nd rfl (Or.inl rfl)) (fun _ _ _ _ _ => spts_nil) (fun _ _ _ _ _ => (se_call C_kind_of A_p_kind_of (hr.mono (by decide)) rfl takes0 (sa_cons (se_var 1) sa_nil)))) sa_nil))))
theorem sc_p_reckoned : FnScope n_p_reckoned ["row", "low", "top"] (defScope (top 15)) := ⟨rfl, rfl, rfl, by decide +kernel, rfl, by decide +kernel, by decide +kernel⟩
theorem d_p_reckoned (T : Txt w K mg P tW tP aS) (hx : P.xa = none)  {f : Addr} {fd : FuncData} (F : L2.Fun K "reckoned" "reckoned" (top 15) f fd) : FnOk Pg w K mg base (L2.CX Pg w) 1 f fd ["row", "low", "top"] (spF K P 3 s_p_reckoned) :=
  okF (N := n_p_reckoned) (body := b_p_reckoned) (a := 3) (n := 3) F sc_p_reckoned rfl rfl hx fun cdv A outer s H E hr tk hp =>
  have hu : _ + 1 < cLine := hu_of hr
  have hu64 : _ + 64 < cLine := hr.units
(sss_cons (ss_if (st_eq hu64 (se_ix hu (se_var 0) se_int) se_str) (sss_one (ss_ret (se_mod (se_add false (se_var 1) (se_var 2)) (se_globI rfl T.c_ROUND.choose_spec)))) sss_nil)
 (sss_cons (ss_if (st_eq hu64 (se_ix hu (se_var 0) se_int) se_str) (sss_one (ss_ret (se_mod (se_mul false (se_var 1) (se_var 2)) (se_globI rfl T.c_ROUND.choose_spec)))) sss_nil)
 (sss_cons (ss_if (st_eq hu64 (se_ix hu (se_var 0) se_int) se_str) (sss_one (ss_ret (se_intc rfl T.b_int (sa_cons (se_cmp op_lt bo_cmp (se_var 1) (se_var 2)) sa_nil)))) sss_nil)
 (sss_one (ss_ret (se_slice false (se_add false (se_var 1) (se_var 2)) so_none (so_some (se_globI rfl T.c_SIGNS.choose_spec))))))))
theorem sc_p_done : FnScope n_p_done ["stack", "row"] (defScope (top 16)) := ⟨rfl, rfl, rfl, by decide +kernel, rfl, by decide +kernel, by decide +kernel⟩
theorem d_p_done (T : Txt w K mg P tW tP aS) (hx : P.xa = none) (C_wants : Cal Pg w K mg base P "wants" 1 1 s_p_wants) (C_need : Cal Pg w K mg base P "need" 2 1 s_p_need) (C_kinds_of : Cal Pg w K mg base P "kinds_of" 1 2 s_p_kinds_of) (C_reckoned : Cal Pg w K mg base P "reckoned" 3 1 s_p_reckoned) {f : Addr} {fd : FuncData} (F : L2.Fun K "done" "done" (top 16) f fd) : FnOk Pg w K mg base (L2.CX Pg w) 3 f fd ["stack", "row"] (spF K P 2 s_p_done) :=
  okF (N := n_p_done) (body := b_p_done) (a := 2) (n := 3) F sc_p_done rfl rfl hx fun cdv A outer s H E hr tk hp =>
  have hu : _ + 1 < cLine := hu_of hr
  have hu64 : _ + 64 < cLine := hr.units
(sss_cons (ss_asg (i := 2) sc_p_done.nd rfl (Or.inl rfl) (se_call C_wants A_p_wants (hr.mono (by decide)) rfl tk (sa_cons (se_var 1) sa_nil)))
 (sss_cons (ss_exp (se_call C_need A_p_need (hr.mono (by decide)) rfl tk (sa_cons (se_call C_kinds_of A_p_kinds_of (hr.mono (by decide)) rfl tk (sa_cons (se_slice false (se_var 0) (so_some (se_max rfl rfl T.b_max (sa_cons se_int (sa_cons (se_sub (se_len rfl T.b_len (sa_cons (se_var 0) sa_nil)) (se_len rfl T.b_len (sa_cons (se_var 2) sa_nil))) sa_nil)))) so_none) sa_nil)) (sa_cons (se_var 2) sa_nil))))
 (sss_cons (ss_if (st_w (sw_or (st_eq hu64 (se_ix hu (se_var 1) se_int) se_str) (sw_or1 (st_eq hu64 (se_ix hu (se_var 1) se_int) se_str)))) (sss_one (ss_ret (se_add true (se_var 0) (se_lst false (sa_cons (se_ix hu (se_var 1) se_int) sa_nil))))) sss_nil)
 (sss_cons (ss_if (st_eq hu64 (se_ix hu (se_var 1) se_int) se_str) (sss_one (ss_ret (se_add true (se_var 0) (se_lst false (sa_cons (se_ix hu (se_var 0) (se_sub (se_sub (se_len rfl T.b_len (sa_cons (se_var 0) sa_nil)) se_int) (se_ix hu (se_var 1) se_int))) sa_nil))))) sss_nil)
 (sss_cons (ss_if (st_eq hu64 (se_ix hu (se_var 1) se_int) se_str) (sss_one (ss_ret (se_slice true (se_var 0) so_none (so_some (se_neg se_int))))) sss_nil)
 (sss_cons (ss_if (st_eq hu64 (se_ix hu (se_var 1) se_int) se_str) (sss_one (ss_ret (se_add true (se_slice false (se_var 0) so_none (so_some (se_neg se_int))) (se_lst false (sa_cons (se_len rfl T.b_len (sa_cons (se_ix hu (se_var 0) (se_neg se_int)) sa_nil)) sa_nil))))) sss_nil)
 (sss_cons (ss_if (st_eq hu64 (se_ix hu (se_var 1) se_int) se_str) (sss_one (ss_ret (se_add true (se_slice false (se_var 0) so_none (so_some (se_neg se_int))) (se_lst false (sa_cons (se_strc rfl T.b_str (sa_cons (se_ix hu (se_var 0) (se_neg se_int)) sa_nil)) sa_nil))))) sss_nil)
 (sss_cons (ss_if (st_eq hu64 (se_ix hu (se_var 1) se_int) se_str) (sss_one (ss_ret (se_add true (se_slice false (se_var 0) so_none (so_some (se_neg se_int))) (se_lst false (sa_cons (se_ix hu (se_var 0) (se_neg se_int)) (sa_cons (se_ix hu (se_var 0) (se_neg se_int)) sa_nil)))))) sss_nil)
 (sss_one (ss_ret (se_add true (se_slice false (se_var 0) so_none (so_some (se_neg se_int))) (se_lst false (sa_cons (se_call C_reckoned A_p_reckoned (hr.mono (by decide)) rfl tk (sa_cons (se_var 1) (sa_cons (se_ix hu (se_var 0) (se_neg se_int)) (sa_cons (se_ix hu (se_var 0) (se_neg se_int)) sa_nil)))) sa_nil)))))))))))))
theorem sc_m_step : FnScope n_m_step ["self"] (defScope (inClass (top 24) 3)) := ⟨rfl, rfl, rfl, by decide +kernel, rfl, by decide +kernel, by decide +kernel⟩
theorem d_m_step (T : Txt w K mg P tW tP aS) (hx : P.xa = none) (C_over : CalM Pg w K mg base P "over" 1 1 s_m_over) (C_leave : CalM Pg w K mg base P "leave" 1 1 s_m_leave) (C_block_of : Cal Pg w K mg base P "block_of" 2 1 s_p_block_of) (C_need : Cal Pg w K mg base P "need" 2 1 s_p_need) (C_done : Cal Pg w K mg base P "done" 2 3 s_p_done) (C_kinds_of : Cal Pg w K mg base P "kinds_of" 1 2 s_p_kinds_of) {f : Addr} {fd : FuncData} (F : L2.Fun K "step" "Machine.step" (inClass (top 24) 3) f fd) : FnOk Pg w K mg base (L2.CX Pg w) 4 f fd ["self"] (spF K P 1 s_m_step) :=
  okR (N := n_m_step) (body := b_m_step) (a := 1) (n := 7) F sc_m_step rfl rfl hx fun cdv A outer s H E hr tk hp =>
  have hu : _ + 1 < cLine := hu_of hr
  have hu64 : _ + 64 < cLine := hr.units
(sss_cons (ss_if (st_tv (se_meth0 T.cl C_over A_m_over (hr.mono (by decide)) tk (se_var 0))) (sss_one ss_retN) sss_nil)
 (sss_cons (ss_asgT rfl sc_m_step.nd (.cons (i := 1) rfl (Or.inl rfl) (by first | exact .inl rfl | exact .inr rfl) rfl (.cons (i := 2) rfl (Or.inl rfl) (by first | exact .inl rfl | exact .inr rfl) rfl .nil)) (se_ix hu (se_fld T.cl T.n_frames (se_var 0)) (se_neg se_int)))
 (sss_cons (ss_asg (i := 3) sc_m_step.nd rfl (Or.inl rfl) (se_ix hu (se_ix hu (se_ix hu (se_fld T.cl T.n_program (se_var 0)) (se_var 1)) se_int) (se_var 2)))
 (sss_cons (ss_asg (i := 4) sc_m_step.nd rfl (Or.inl rfl) (se_fld T.cl T.n_stack (se_var 0)))
 (sss_cons (ss_asg (i := 5) sc_m_step.nd rfl (Or.inl rfl) (se_lst false sa_nil))
 (sss_cons (ss_if (st_eq hu64 (se_ix hu (se_var 3) se_int) se_str) (sss_one (ss_asg (i := 5) sc_m_step.nd rfl (Or.inl rfl) (se_lst false (sa_cons (se_ix hu (se_var 3) se_int) sa_nil)))) (sss_one (ss_if (st_eq hu64 (se_ix hu (se_var 3) se_int) se_str) (sss_cons (ss_exp (se_call C_need A_p_need (hr.mono (by decide)) rfl tk (sa_cons (se_call C_kinds_of A_p_kinds_of (hr.mono (by decide)) rfl tk (sa_cons (se_slice false (se_var 4) (so_some (se_neg se_int)) so_none) sa_nil)) (sa_cons (se_tup (sa_cons se_str sa_nil)) sa_nil))))
 (sss_cons (ss_asg (i := 5) sc_m_step.nd rfl (Or.inl rfl) (se_lst false (sa_cons (se_ix hu (se_var 3) (se_add false se_int (se_intc rfl T.b_int (sa_cons (se_eq hu64 (se_ix hu (se_var 4) (se_neg se_int)) se_int) sa_nil)))) sa_nil)))
 (sss_one (ss_asg (i := 4) sc_m_step.nd rfl (Or.inl rfl) (se_slice true (se_var 4) so_none (so_some (se_neg se_int))))))) (sss_one (ss_asg (i := 4) sc_m_step.nd rfl (Or.inl rfl) (se_call C_done A_p_done (hr.mono (by decide)) rfl tk (sa_cons (se_var 4) (sa_cons (se_var 3) sa_nil))))))))
 (sss_cons (ss_for hp rfl (si_it (se_var 5)) (.name (i := 6) sc_m_step.nd rfl (Or.inl rfl) (by first | exact .inl rfl | exact .inr rfl)) (sss_one (ss_exp (se_call C_block_of A_p_block_of (hr.mono (by decide)) rfl tk (sa_cons (se_fld T.cl T.n_program (se_var 0)) (sa_cons (se_var 6) sa_nil))))))
 (sss_cons (ss_setF T.cl T.n_stack (se_var 0) (se_var 4))
 (sss_cons (ss_setL (se_fld T.cl T.n_frames (se_var 0)) (se_neg se_int) (se_tup (sa_cons (se_var 1) (sa_cons (se_add false (se_var 2) se_int) sa_nil))))
 (sss_cons (ss_for hp rfl (si_it (se_var 5)) (.name (i := 6) sc_m_step.nd rfl (Or.inl rfl) (by first | exact .inl rfl | exact .inr rfl)) (sss_one (ss_exp (se_append (se_fld T.cl T.n_frames (se_var 0)) (sa_cons (se_tup (sa_cons (se_var 6) (sa_cons se_int sa_nil))) sa_nil)))))
 (sss_one (ss_exp (se_meth0 T.cl C_leave A_m_leave (hr.mono (by decide)) tk (se_var 0))))))))))))))
theorem sc_p_run : FnScope n_p_run ["program", "name", "stack", "fuel"] (defScope (top 25)) := ⟨rfl, rfl, rfl, by decide +kernel, rfl, by decide +kernel, by decide +kernel⟩
theorem d_p_run (T : Txt w K mg P tW tP aS) (hx : P.xa = none) (C___init__ : CalI Pg w K mg base P 4 2 s_m_init) (C_over : CalM Pg w K mg base P "over" 1 1 s_m_over) (C_step : CalM Pg w K mg base P "step" 1 4 s_m_step) {f : Addr} {fd : FuncData} (F : L2.Fun K "run" "run" (top 25) f fd) : FnOk Pg w K mg base (L2.CX Pg w) 5 f fd ["program", "name", "stack", "fuel"] (spF K P 4 s_p_run) :=
  okF (N := n_p_run) (body := b_p_run) (a := 4) (n := 5) F sc_p_run rfl rfl hx fun cdv A outer s H E hr tk hp =>
  have hu : _ + 1 < cLine := hu_of hr
  have hu64 : _ + 64 < cLine := hr.units
(sss_cons (ss_asg (i := 4) sc_p_run.nd rfl (Or.inl rfl) (se_make C___init__ A_m_init (hr.mono (by decide)) rfl T.gM tk (sa_cons (se_var 0) (sa_cons (se_var 1) (sa_cons (se_var 2) sa_nil)))))
 (sss_cons (ss_while 1000000 hp (st_not (st_tv (se_meth0 T.cl C_over A_m_over (hr.mono (by decide)) tk (se_var 4)))) (sss_cons (ss_if (st_eq hu64 (se_var 3) se_int) (sss_one (ss_raise rfl tk T.x_Dry rfl)) sss_nil)
 (sss_cons (ss_exp (se_meth0 T.cl C_step A_m_step (hr.mono (by decide)) tk (se_var 4)))
 (sss_one (ss_asg (i := 3) sc_p_run.nd rfl (Or.inl rfl) (se_sub (se_var 3) se_int))))))
 (sss_one (ss_ret (se_fld T.cl T.n_stack (se_var 4))))))
theorem sc_run_3 : FnScope n_run_3 ["_law_program_here", "_law_name", "_law_stack", "_law_fuel"] (defScope (top 41)) := ⟨rfl, rfl, rfl, by decide +kernel, rfl, by decide +kernel, by decide +kernel⟩
theorem d_run_3 (T : Txt w K mg P tW tP aS) (hx : P.xa = none) (C_run : Cal Pg w K mg base P "run" 4 5 s_p_run) {f : Addr} {fd : FuncData} (F : L2.Fun K "_law_run" "_law_run" (top 41) f fd) : FnOk Pg w K mg base (L2.CX Pg w) 6 f fd ["_law_program_here", "_law_name", "_law_stack", "_law_fuel"] (spF K P 4 s_run_3) :=
  okF (N := n_run_3) (body := b_run_3) (a := 4) (n := 4) F sc_run_3 rfl rfl hx fun cdv A outer s H E hr tk hp =>
  have hu : _ + 1 < cLine := hu_of hr
  have hu64 : _ + 64 < cLine := hr.units
(sss_one (ss_try rfl rfl tk (fun _ _ _ tk1 hp1 => (sss_one (ss_ret (se_fr (se_call C_run A_p_run (hr.mono (by decide)) rfl tk1 (sa_cons (se_var 0) (sa_cons (se_var 1) (sa_cons (se_var 2) (sa_cons (se_var 3) sa_nil))))))))) (.cons ⟨rfl, by decide +kernel, .inl T.n_Dry⟩ T.k_Dry (fun _ _ _ => (sss_one (ss_ret se_str))) .nil)))
theorem sc_alike : FnScope n_alike ["_law_found", "_law_due"] (defScope (top 39)) := ⟨rfl, rfl, rfl, by decide +kernel, rfl, by decide +kernel, by decide +kernel⟩
theorem d_alike (T : Txt w K mg P tW tP aS) (hx : P.xa = none)  {f : Addr} {fd : FuncData} (F : L2.Fun K "_law_alike" "_law_alike" (top 39) f fd) : FnOk Pg w K mg base (L2.CX Pg w) 1 f fd ["_law_found", "_law_due"] (spF K P 2 s_alike) :=
  okF (N := n_alike) (body := b_alike) (a := 2) (n := 3) F sc_alike rfl rfl hx fun cdv A outer s H E hr tk hp =>
  have hu : _ + 1 < cLine := hu_of hr
  have hu64 : _ + 64 < cLine := hr.units
(sss_cons (ss_if (st_w (sw_or (st_not (st_tv (se_isi (u := "list") (by decide +kernel) rfl T.b_isinstance rfl T.b_list bt_list (se_var 0)))) (sw_or1 (st_ne hu64 (se_len rfl T.b_len (sa_cons (se_var 0) sa_nil)) (se_len rfl T.b_len (sa_cons (se_var 1) sa_nil)))))) (sss_one (ss_ret se_bl)) sss_nil)
 (sss_cons (ss_for hp rfl (si_rng rfl T.b_range (se_len rfl T.b_len (sa_cons (se_var 1) sa_nil))) (.name (i := 2) sc_alike.nd rfl (Or.inl rfl) (by first | exact .inl rfl | exact .inr rfl)) (sss_cons (ss_if (st_ne hu64 (se_isi (u := "str") (by decide +kernel) rfl T.b_isinstance rfl T.b_str bt_str (se_ix hu (se_var 1) (se_var 2))) (se_isi (u := "str") (by decide +kernel) rfl T.b_isinstance rfl T.b_str bt_str (se_ix hu (se_var 0) (se_var 2)))) (sss_one (ss_ret se_bl)) sss_nil)
 (sss_one (ss_if (st_w (sw_and (st_not (st_tv (se_isi (u := "str") (by decide +kernel) rfl T.b_isinstance rfl T.b_str bt_str (se_ix hu (se_var 1) (se_var 2))))) (sw_and1 (st_w (sw_or (st_tv (se_isi (u := "bool") (by decide +kernel) rfl T.b_isinstance rfl T.b_bool bt_bool (se_ix hu (se_var 0) (se_var 2)))) (sw_or1 (st_not (st_tv (se_isi (u := "int") (by decide +kernel) rfl T.b_isinstance rfl T.b_int bt_int (se_ix hu (se_var 0) (se_var 2))))))))))) (sss_one (ss_ret se_bl)) sss_nil))))
 (sss_one (ss_ret (se_eq hu64 (se_var 0) (se_var 1))))))
theorem sc_deep : FnScope n_deep ["_law_program_here", "_law_names", "_law_beneath", "_law_many", "_law_leaves", "_law_some"] (defScope (top 42)) := ⟨rfl, rfl, rfl, by decide +kernel, rfl, by decide +kernel, by decide +kernel⟩
theorem d_deep (T : Txt w K mg P tW tP aS) (hx : P.xa = none) (C___init__ : CalI Pg w K mg base P 4 2 s_m_init) (C_step : CalM Pg w K mg base P "step" 1 4 s_m_step) (C__law_alike : Cal Pg w K mg base P "_law_alike" 2 1 s_alike) (C_over : CalM Pg w K mg base P "over" 1 1 s_m_over) {f : Addr} {fd : FuncData} (F : L2.Fun K "_law_deep" "_law_deep" (top 42) f fd) : FnOk Pg w K mg base (L2.CX Pg w) 5 f fd ["_law_program_here", "_law_names", "_law_beneath", "_law_many", "_law_leaves", "_law_some"] (spF K P 6 s_deep) :=
  okF (N := n_deep) (body := b_deep) (a := 6) (n := 11) F sc_deep rfl rfl hx fun cdv A outer s H E hr tk hp =>
  have hu : _ + 1 < cLine := hu_of hr
  have hu64 : _ + 64 < cLine := hr.units
(sss_cons (ss_asg (i := 6) sc_deep.nd rfl (Or.inl rfl) (se_make C___init__ A_m_init (hr.mono (by decide)) rfl T.gM tk (sa_cons (se_var 0) (sa_cons (se_ix hu (se_var 1) se_int) (sa_cons (se_add false (se_var 2) (se_lst false (sa_cons (se_var 3) sa_nil))) sa_nil)))))
 (sss_cons (ss_asg (i := 7) sc_deep.nd rfl (Or.inl rfl) (se_make C___init__ A_m_init (hr.mono (by decide)) rfl T.gM tk (sa_cons (se_var 0) (sa_cons (se_ix hu (se_var 1) se_int) (sa_cons (se_add false (se_var 2) (se_lst false (sa_cons se_int sa_nil))) sa_nil)))))
 (sss_cons (ss_asg (i := 8) sc_deep.nd rfl (Or.inl rfl) (se_lst false sa_nil))
 (sss_cons (ss_for hp rfl (si_rng rfl T.b_range (se_mul false (se_add false se_int (se_intc rfl T.b_int (sa_cons (se_var 4) sa_nil))) (se_var 3))) (.name (i := 9) sc_deep.nd rfl (Or.inl rfl) (by first | exact .inl rfl | exact .inr rfl)) (sss_cons (ss_exp (se_meth0 T.cl C_step A_m_step (hr.mono (by decide)) tk (se_var 6)))
 (sss_one (ss_if (st_eq hu64 (se_mod (se_var 9) se_int) se_int) (sss_one (ss_exp (se_meth0 T.cl C_step A_m_step (hr.mono (by decide)) tk (se_var 7)))) sss_nil))))
 (sss_cons (ss_for hp rfl (si_rng rfl T.b_range se_int) (.name (i := 9) sc_deep.nd rfl (Or.inl rfl) (by first | exact .inl rfl | exact .inr rfl)) (sss_one (ss_exp (se_meth0 T.cl C_step A_m_step (hr.mono (by decide)) tk (se_var 7)))))
 (sss_cons (ss_if (st_w (sw_or (st_not (st_tv (se_meth0 T.cl C_over A_m_over (hr.mono (by decide)) tk (se_var 7)))) (sw_or1 (st_not (st_tv (se_call C__law_alike A_alike (hr.mono (by decide)) rfl tk (sa_cons (se_fld T.cl T.n_stack (se_var 7)) (sa_cons (se_add false (se_var 2) (se_lst false (sa_cons (se_ix hu (se_lst false (sa_cons (se_var 5) (sa_cons se_int sa_nil))) (se_intc rfl T.b_int (sa_cons (se_var 4) sa_nil))) sa_nil))) sa_nil)))))))) (sss_one (ss_ret se_bl)) sss_nil)
 (sss_cons (ss_if (st_tru (se_var 4)) (sss_one (ss_asgLc false rfl sc_deep.nd (iy := 8) rfl rfl (sw_true rfl rfl rfl (by decide +kernel)) (si_rng rfl T.b_range (se_var 3)) (blkOk_by (own := [("_law_turn", 9)]) (N := n_deep) (sc := defScope (top 42)) (by decide +kernel)) (fun _ _ _ _ _ => pg_name (i := 9) sc_deep.nd rfl (Or.inl rfl)) (fun _ _ _ _ _ => spts_nil) (fun _ _ _ _ _ => (se_sub (se_var 3) (se_var 9))))) sss_nil)
 (sss_cons (ss_asg (i := 10) sc_deep.nd rfl (Or.inl rfl) (se_add false (se_mul false (se_lst false (sa_cons (se_tup (sa_cons (se_ix hu (se_var 1) se_int) (sa_cons se_int sa_nil))) (sa_cons (se_tup (sa_cons (se_ix hu (se_var 1) se_int) (sa_cons (se_add false se_int (se_intc rfl T.b_int (sa_cons (se_var 4) sa_nil))) sa_nil))) sa_nil))) (se_var 3)) (se_lst false (sa_cons (se_tup (sa_cons (se_ix hu (se_var 1) se_int) (sa_cons se_int sa_nil))) sa_nil))))
 (sss_one (ss_ret (se_and (se_eq hu64 (se_fld T.cl T.n_frames (se_var 6)) (se_var 10)) (se_and (se_not (se_meth0 T.cl C_over A_m_over (hr.mono (by decide)) tk (se_var 6))) (se_one (se_call C__law_alike A_alike (hr.mono (by decide)) rfl tk (sa_cons (se_fld T.cl T.n_stack (se_var 6)) (sa_cons (se_add false (se_add false (se_var 2) (se_var 8)) (se_lst false (sa_cons se_int sa_nil))) sa_nil))))))))))))))))
theorem sc_p_named : FnScope n_p_named ["block"] (defScope (top 30)) := ⟨rfl, rfl, rfl, by decide +kernel, rfl, by decide +kernel, by decide +kernel⟩
theorem d_p_named (T : Txt w K mg P tW tP aS) (hx : P.xa = none)  {f : Addr} {fd : FuncData} (F : L2.Fun K "named" "named" (top 30) f fd) : FnOk Pg w K mg base (L2.CX Pg w) 1 f fd ["block"] (spF K P 1 s_p_named) :=
  okF (N := n_p_named) (body := b_p_named) (a := 1) (n := 3) F sc_p_named rfl rfl hx fun cdv A outer s H E hr tk hp =>
  have hu : _ + 1 < cLine := hu_of hr
  have hu64 : _ + 64 < cLine := hr.units
(sss_cons (ss_asg (i := 1) sc_p_named.nd rfl (Or.inl rfl) (se_lst true sa_nil))
 (sss_cons (ss_for hp rfl (si_it (se_ix hu (se_var 0) se_int)) (.name (i := 2) sc_p_named.nd rfl (Or.inl rfl) (by first | exact .inl rfl | exact .inr rfl)) (sss_one (ss_if (st_w (sw_or (st_eq hu64 (se_ix hu (se_var 2) se_int) se_str) (sw_or1 (st_eq hu64 (se_ix hu (se_var 2) se_int) se_str)))) (sss_one (ss_exp (se_extend (se_var 1) (sa_cons (se_slice false (se_var 2) (so_some se_int) so_none) sa_nil)))) sss_nil)))
 (sss_one (ss_ret (se_var 1)))))
theorem sc_p_reached : FnScope n_p_reached ["program", "name"] (defScope (top 31)) := ⟨rfl, rfl, rfl, by decide +kernel, rfl, by decide +kernel, by decide +kernel⟩
theorem d_p_reached (T : Txt w K mg P tW tP aS) (hx : P.xa = none) (C_named : Cal Pg w K mg base P "named" 1 1 s_p_named) {f : Addr} {fd : FuncData} (F : L2.Fun K "reached" "reached" (top 31) f fd) : FnOk Pg w K mg base (L2.CX Pg w) 2 f fd ["program", "name"] (spF K P 2 s_p_reached) :=
  okF (N := n_p_reached) (body := b_p_reached) (a := 2) (n := 5) F sc_p_reached rfl rfl hx fun cdv A outer s H E hr tk hp =>
  have hu : _ + 1 < cLine := hu_of hr
  have hu64 : _ + 64 < cLine := hr.units
(sss_cons (ss_asg (i := 2) sc_p_reached.nd rfl (Or.inl rfl) (se_lst true sa_nil))
 (sss_cons (ss_asg (i := 3) sc_p_reached.nd rfl (Or.inl rfl) (se_call C_named A_p_named (hr.mono (by decide)) rfl tk (sa_cons (se_ix hu (se_var 0) (se_var 1)) sa_nil)))
 (sss_cons (ss_while 1000000 hp (st_tru (se_var 3)) (sss_cons (ss_asg (i := 4) sc_p_reached.nd rfl (Or.inl rfl) (se_pop (se_var 3)))
 (sss_one (ss_if (st_notIn hu (se_var 4) (se_var 2)) (sss_cons (ss_exp (se_append (se_var 2) (sa_cons (se_var 4) sa_nil)))
 (sss_one (ss_if (st_in hu (se_var 4) (se_var 0)) (sss_one (ss_exp (se_extend (se_var 3) (sa_cons (se_fr (se_call C_named A_p_named (hr.mono (by decide)) rfl tk (sa_cons (se_ix hu (se_var 0) (se_var 4)) sa_nil))) sa_nil)))) sss_nil))) sss_nil))))
 (sss_one (ss_ret (se_var 2))))))
theorem sc_p_plainly : FnScope n_p_plainly ["kinds", "row"] (defScope (top 19)) := ⟨rfl, rfl, rfl, by decide +kernel, rfl, by decide +kernel, by decide +kernel⟩
theorem d_p_plainly (T : Txt w K mg P tW tP aS) (hx : P.xa = none) (C_wants : Cal Pg w K mg base P "wants" 1 1 s_p_wants) (C_need : Cal Pg w K mg base P "need" 2 1 s_p_need) {f : Addr} {fd : FuncData} (F : L2.Fun K "plainly" "plainly" (top 19) f fd) : FnOk Pg w K mg base (L2.CX Pg w) 2 f fd ["kinds", "row"] (spF K P 2 s_p_plainly) :=
  okF (N := n_p_plainly) (body := b_p_plainly) (a := 2) (n := 4) F sc_p_plainly rfl rfl hx fun cdv A outer s H E hr tk hp =>
  have hu : _ + 1 < cLine := hu_of hr
  have hu64 : _ + 64 < cLine := hr.units
(sss_cons (ss_asg (i := 2) sc_p_plainly.nd rfl (Or.inl rfl) (se_call C_wants A_p_wants (hr.mono (by decide)) rfl tk (sa_cons (se_var 1) sa_nil)))
 (sss_cons (ss_exp (se_call C_need A_p_need (hr.mono (by decide)) rfl tk (sa_cons (se_var 0) (sa_cons (se_var 2) sa_nil))))
 (sss_cons (ss_if (st_eq hu64 (se_ix hu (se_var 1) se_int) se_str) (sss_one (ss_ret (se_add false (se_var 0) (se_tup (sa_cons (se_ix hu (se_var 0) (se_sub (se_sub (se_len rfl T.b_len (sa_cons (se_var 0) sa_nil)) se_int) (se_ix hu (se_var 1) se_int))) sa_nil))))) sss_nil)
 (sss_cons (ss_asg (i := 3) sc_p_plainly.nd rfl (Or.inl rfl) (se_slice false (se_var 0) so_none (so_some (se_sub (se_len rfl T.b_len (sa_cons (se_var 0) sa_nil)) (se_len rfl T.b_len (sa_cons (se_var 2) sa_nil))))))
 (sss_cons (ss_if (st_eq hu64 (se_ix hu (se_var 1) se_int) se_str) (sss_one (ss_ret (se_var 3))) sss_nil)
 (sss_cons (ss_if (st_eq hu64 (se_ix hu (se_var 1) se_int) se_str) (sss_one (ss_ret (se_add false (se_var 3) (se_tup (sa_cons (se_ix hu (se_var 0) (se_neg se_int)) (sa_cons (se_ix hu (se_var 0) (se_neg se_int)) sa_nil)))))) sss_nil)
 (sss_one (ss_ret (se_add false (se_var 3) (se_tab rfl T.g_PUTS T.t_PUTS (se_ix hu (se_var 1) se_int)))))))))))
theorem sc_p_called : FnScope n_p_called ["kinds", "block"] (defScope (top 20)) := ⟨rfl, rfl, rfl, by decide +kernel, rfl, by decide +kernel, by decide +kernel⟩
theorem d_p_called (T : Txt w K mg P tW tP aS) (hx : P.xa = none) (C_need : Cal Pg w K mg base P "need" 2 1 s_p_need) {f : Addr} {fd : FuncData} (F : L2.Fun K "called" "called" (top 20) f fd) : FnOk Pg w K mg base (L2.CX Pg w) 2 f fd ["kinds", "block"] (spF K P 2 s_p_called) :=
  okF (N := n_p_called) (body := b_p_called) (a := 2) (n := 2) F sc_p_called rfl rfl hx fun cdv A outer s H E hr tk hp =>
  have hu : _ + 1 < cLine := hu_of hr
  have hu64 : _ + 64 < cLine := hr.units
(sss_cons (ss_exp (se_call C_need A_p_need (hr.mono (by decide)) rfl tk (sa_cons (se_var 0) (sa_cons (se_ix hu (se_var 1) se_int) sa_nil))))
 (sss_one (ss_ret (se_add false (se_slice false (se_var 0) so_none (so_some (se_sub (se_len rfl T.b_len (sa_cons (se_var 0) sa_nil)) (se_len rfl T.b_len (sa_cons (se_ix hu (se_var 1) se_int) sa_nil))))) (se_ix hu (se_var 1) se_int)))))
theorem sc_p_behind : FnScope n_p_behind ["program", "kinds", "row"] (defScope (top 22)) := ⟨rfl, rfl, rfl, by decide +kernel, rfl, by decide +kernel, by decide +kernel⟩
theorem d_p_behind (T : Txt w K mg P tW tP aS) (hx : P.xa = none) (C_plainly : Cal Pg w K mg base P "plainly" 2 2 s_p_plainly) (C_called : Cal Pg w K mg base P "called" 2 2 s_p_called) (C_need : Cal Pg w K mg base P "need" 2 1 s_p_need) (C_block_of : Cal Pg w K mg base P "block_of" 2 1 s_p_block_of) {f : Addr} {fd : FuncData} (F : L2.Fun K "behind" "behind" (top 22) f fd) : FnOk Pg w K mg base (L2.CX Pg w) 3 f fd ["program", "kinds", "row"] (spF K P 3 s_p_behind) :=
  okF (N := n_p_behind) (body := b_p_behind) (a := 3) (n := 5) F sc_p_behind rfl rfl hx fun cdv A outer s H E hr tk hp =>
  have hu : _ + 1 < cLine := hu_of hr
  have hu64 : _ + 64 < cLine := hr.units
(sss_cons (ss_if (st_eq hu64 (se_ix hu (se_var 2) se_int) se_str) (sss_one (ss_ret (se_call C_called A_p_called (hr.mono (by decide)) rfl tk (sa_cons (se_var 1) (sa_cons (se_call C_block_of A_p_block_of (hr.mono (by decide)) rfl tk (sa_cons (se_var 0) (sa_cons (se_ix hu (se_var 2) se_int) sa_nil))) sa_nil))))) sss_nil)
 (sss_cons (ss_if (st_eq hu64 (se_ix hu (se_var 2) se_int) se_str) (sss_cons (ss_exp (se_call C_need A_p_need (hr.mono (by decide)) rfl tk (sa_cons (se_var 1) (sa_cons (se_tup (sa_cons se_str sa_nil)) sa_nil))))
 (sss_cons (ss_asg (i := 3) sc_p_behind.nd rfl (Or.inl rfl) (se_call C_block_of A_p_block_of (hr.mono (by decide)) rfl tk (sa_cons (se_var 0) (sa_cons (se_ix hu (se_var 2) se_int) sa_nil))))
 (sss_cons (ss_asg (i := 4) sc_p_behind.nd rfl (Or.inl rfl) (se_call C_block_of A_p_block_of (hr.mono (by decide)) rfl tk (sa_cons (se_var 0) (sa_cons (se_ix hu (se_var 2) se_int) sa_nil))))
 (sss_cons (ss_if (st_w (sw_or (st_ne hu64 (se_ix hu (se_var 3) se_int) (se_ix hu (se_var 4) se_int)) (sw_or1 (st_ne hu64 (se_ix hu (se_var 3) se_int) (se_ix hu (se_var 4) se_int))))) (sss_one (ss_raise rfl tk T.x_Apart rfl)) sss_nil)
 (sss_one (ss_ret (se_call C_called A_p_called (hr.mono (by decide)) rfl tk (sa_cons (se_slice false (se_var 1) so_none (so_some (se_neg se_int))) (sa_cons (se_var 3) sa_nil))))))))) sss_nil)
 (sss_one (ss_ret (se_call C_plainly A_p_plainly (hr.mono (by decide)) rfl tk (sa_cons (se_var 1) (sa_cons (se_var 2) sa_nil)))))))
theorem sc_p_went : FnScope n_p_went ["program", "name"] (defScope (top 27)) := ⟨rfl, rfl, rfl, by decide +kernel, rfl, by decide +kernel, by decide +kernel⟩
theorem d_p_went (T : Txt w K mg P tW tP aS) (hx : P.xa = none) (C_behind : Cal Pg w K mg base P "behind" 3 3 s_p_behind) {f : Addr} {fd : FuncData} (F : L2.Fun K "went" "went" (top 27) f fd) : FnOk Pg w K mg base (L2.CX Pg w) 4 f fd ["program", "name"] (spF K P 2 s_p_went) :=
  okF (N := n_p_went) (body := b_p_went) (a := 2) (n := 7) F sc_p_went rfl rfl hx fun cdv A outer s H E hr tk hp =>
  have hu : _ + 1 < cLine := hu_of hr
  have hu64 : _ + 64 < cLine := hr.units
(sss_cons (ss_asgT rfl sc_p_went.nd (.cons (i := 2) rfl (Or.inl rfl) (by first | exact .inl rfl | exact .inr rfl) rfl (.cons (i := 3) rfl (Or.inl rfl) (by first | exact .inl rfl | exact .inr rfl) rfl (.cons (i := 4) rfl (Or.inl rfl) (by first | exact .inl rfl | exact .inr rfl) rfl .nil))) (se_ix hu (se_var 0) (se_var 1)))
 (sss_cons (ss_asg (i := 5) sc_p_went.nd rfl (Or.inl rfl) (se_lst true (sa_cons (se_var 2) sa_nil)))
 (sss_cons (ss_for hp rfl (si_it (se_var 4)) (.name (i := 6) sc_p_went.nd rfl (Or.inl rfl) (by first | exact .inl rfl | exact .inr rfl)) (sss_one (ss_try rfl rfl tk (fun _ _ _ tk1 hp1 => (sss_one (ss_exp (se_append (se_var 5) (sa_cons (se_call C_behind A_p_behind (hr.mono (by decide)) rfl tk1 (sa_cons (se_var 0) (sa_cons (se_ix hu (se_var 5) (se_neg se_int)) (sa_cons (se_var 6) sa_nil)))) sa_nil))))) (.cons ⟨rfl, by decide +kernel, .inl T.n_Empty⟩ T.k_Empty (fun _ _ _ => (sss_one (ss_ret (se_tup (sa_cons (se_var 5) (sa_cons se_str sa_nil)))))) (.cons ⟨rfl, by decide +kernel, .inl T.n_WrongKind⟩ T.k_WrongKind (fun _ _ _ => (sss_one (ss_ret (se_tup (sa_cons (se_var 5) (sa_cons se_str sa_nil)))))) (.cons ⟨rfl, by decide +kernel, .inl T.n_NoBlock⟩ T.k_NoBlock (fun _ _ _ => (sss_one (ss_ret (se_tup (sa_cons (se_var 5) (sa_cons se_str sa_nil)))))) (.cons ⟨rfl, by decide +kernel, .inl T.n_Apart⟩ T.k_Apart (fun _ _ _ => (sss_one (ss_ret (se_tup (sa_cons (se_var 5) (sa_cons se_str sa_nil)))))) .nil)))))))
 (sss_cons (ss_if (st_ne hu64 (se_ix hu (se_var 5) (se_neg se_int)) (se_var 3)) (sss_one (ss_ret (se_tup (sa_cons (se_var 5) (sa_cons se_str sa_nil))))) sss_nil)
 (sss_one (ss_ret (se_tup (sa_cons (se_var 5) (sa_cons se_non sa_nil)))))))))
theorem sc_p_fault : FnScope n_p_fault ["program", "name"] (defScope (top 29)) := ⟨rfl, rfl, rfl, by decide +kernel, rfl, by decide +kernel, by decide +kernel⟩
theorem d_p_fault (T : Txt w K mg P tW tP aS) (hx : P.xa = none) (C_went : Cal Pg w K mg base P "went" 2 4 s_p_went) {f : Addr} {fd : FuncData} (F : L2.Fun K "fault" "fault" (top 29) f fd) : FnOk Pg w K mg base (L2.CX Pg w) 5 f fd ["program", "name"] (spF K P 2 s_p_fault) :=
  okF (N := n_p_fault) (body := b_p_fault) (a := 2) (n := 4) F sc_p_fault rfl rfl hx fun cdv A outer s H E hr tk hp =>
  have hu : _ + 1 < cLine := hu_of hr
  have hu64 : _ + 64 < cLine := hr.units
(sss_cons (ss_asgT rfl sc_p_fault.nd (.cons (i := 2) rfl (Or.inl rfl) (by first | exact .inl rfl | exact .inr rfl) rfl (.cons (i := 3) rfl (Or.inl rfl) (by first | exact .inl rfl | exact .inr rfl) rfl .nil)) (se_call C_went A_p_went (hr.mono (by decide)) rfl tk (sa_cons (se_var 0) (sa_cons (se_var 1) sa_nil))))
 (sss_cons (ss_if (st_cmp op_isN bo_isN (se_var 3) se_non) (sss_one (ss_ret se_non)) sss_nil)
 (sss_one (ss_ret (se_tup (sa_cons (se_sub (se_len rfl T.b_len (sa_cons (se_var 2) sa_nil)) se_int) (sa_cons (se_var 3) sa_nil)))))))
theorem sc_p_let_by : FnScope n_p_let_by ["program", "name"] (defScope (top 32)) := ⟨rfl, rfl, rfl, by decide +kernel, rfl, by decide +kernel, by decide +kernel⟩
theorem d_p_let_by (T : Txt w K mg P tW tP aS) (hx : P.xa = none) (C_reached : Cal Pg w K mg base P "reached" 2 2 s_p_reached) (C_fault : Cal Pg w K mg base P "fault" 2 5 s_p_fault) {f : Addr} {fd : FuncData} (F : L2.Fun K "let_by" "let_by" (top 32) f fd) : FnOk Pg w K mg base (L2.CX Pg w) 6 f fd ["program", "name"] (spF K P 2 s_p_let_by) :=
  okF (N := n_p_let_by) (body := b_p_let_by) (a := 2) (n := 3) F sc_p_let_by rfl rfl hx fun cdv A outer s H E hr tk hp =>
  have hu : _ + 1 < cLine := hu_of hr
  have hu64 : _ + 64 < cLine := hr.units
(sss_cons (ss_if (st_notIn hu (se_var 1) (se_var 0)) (sss_one (ss_ret se_bl)) sss_nil)
 (sss_cons (ss_for hp rfl (si_it (se_add false (se_lst false (sa_cons (se_var 1) sa_nil)) (se_fr (se_call C_reached A_p_reached (hr.mono (by decide)) rfl tk (sa_cons (se_var 0) (sa_cons (se_var 1) sa_nil)))))) (.name (i := 2) sc_p_let_by.nd rfl (Or.inl rfl) (by first | exact .inl rfl | exact .inr rfl)) (sss_one (ss_if (st_w (sw_or (st_notIn hu (se_var 2) (se_var 0)) (sw_or1 (st_cmp op_notN bo_notN (se_call C_fault A_p_fault (hr.mono (by decide)) rfl tk (sa_cons (se_var 0) (sa_cons (se_var 2) sa_nil))) se_non)))) (sss_one (ss_ret se_bl)) sss_nil)))
 (sss_one (ss_ret se_bl))))
theorem sc_p_trail_of : FnScope n_p_trail_of ["program", "name"] (defScope (top 28)) := ⟨rfl, rfl, rfl, by decide +kernel, rfl, by decide +kernel, by decide +kernel⟩
theorem d_p_trail_of (T : Txt w K mg P tW tP aS) (hx : P.xa = none) (C_went : Cal Pg w K mg base P "went" 2 4 s_p_went) {f : Addr} {fd : FuncData} (F : L2.Fun K "trail_of" "trail_of" (top 28) f fd) : FnOk Pg w K mg base (L2.CX Pg w) 5 f fd ["program", "name"] (spF K P 2 s_p_trail_of) :=
  okF (N := n_p_trail_of) (body := b_p_trail_of) (a := 2) (n := 4) F sc_p_trail_of rfl rfl hx fun cdv A outer s H E hr tk hp =>
  have hu : _ + 1 < cLine := hu_of hr
  have hu64 : _ + 64 < cLine := hr.units
(sss_cons (ss_asgT rfl sc_p_trail_of.nd (.cons (i := 2) rfl (Or.inl rfl) (by first | exact .inl rfl | exact .inr rfl) rfl (.cons (i := 3) rfl (Or.inl rfl) (by first | exact .inl rfl | exact .inr rfl) rfl .nil)) (se_call C_went A_p_went (hr.mono (by decide)) rfl tk (sa_cons (se_var 0) (sa_cons (se_var 1) sa_nil))))
 (sss_cons (ss_if (st_cmp op_isN bo_isN (se_var 3) se_non) (sss_one (ss_ret (se_var 2))) sss_nil)
 (sss_one (ss_ret se_non))))
theorem sc_p_highest : FnScope n_p_highest ["program", "name", "known"] (defScope (top 33)) := ⟨rfl, rfl, rfl, by decide +kernel, rfl, by decide +kernel, by decide +kernel⟩
theorem d_p_highest (q : Nat) (T : Txt w K mg P tW tP aS) (hx : P.xa = none) (C_trail_of : Cal Pg w K mg base P "trail_of" 2 5 s_p_trail_of) (C_highest : Cal Pg w K mg base P "highest" 3 (6 + q) (s_p_highest q)) {f : Addr} {fd : FuncData} (F : L2.Fun K "highest" "highest" (top 33) f fd) : FnOk Pg w K mg base (L2.CX Pg w) (6 + q + 1) f fd ["program", "name", "known"] (spF K P 3 (s_p_highest (q + 1))) :=
  okF (N := n_p_highest) (body := b_p_highest (s_p_highest q)) (a := 3) (n := 8) F sc_p_highest rfl rfl hx fun cdv A outer s H E hr tk hp =>
  have hu : _ + 1 < cLine := hu_of hr
  have hu64 : _ + 64 < cLine := hr.units
(sss_cons (ss_if (st_in hu (se_var 1) (se_var 2)) (sss_one (ss_ret (se_ix hu (se_var 2) (se_var 1)))) sss_nil)
 (sss_cons (ss_asg (i := 3) sc_p_highest.nd rfl (Or.inl rfl) (se_call C_trail_of A_p_trail_of (hr.mono (by omega)) rfl tk (sa_cons (se_var 0) (sa_cons (se_var 1) sa_nil))))
 (sss_cons (ss_asg (i := 4) sc_p_highest.nd rfl (Or.inl rfl) (se_maxL rfl rfl T.b_max (sa_cons (se_lc false rfl sc_p_highest.nd (si_it (se_var 3)) (blkOk_by (own := [("kinds", 5)]) (N := n_p_highest) (sc := defScope (top 33)) (by decide +kernel)) (fun _ _ _ _ _ => pg_name (i := 5) sc_p_highest.nd rfl (Or.inl rfl)) (fun _ _ _ _ _ => spts_nil) (fun _ _ _ _ _ => (se_len rfl T.b_len (sa_cons (se_var 5) sa_nil)))) sa_nil)))
 (sss_cons (ss_for hp rfl (si_zip rfl T.b_zip (se_var 3) (se_ix hu (se_ix hu (se_var 0) (se_var 1)) se_int)) (.pair rfl sc_p_highest.nd (.cons (i := 5) rfl (Or.inl rfl) (by first | exact .inl rfl | exact .inr rfl) rfl (.cons (i := 6) rfl (Or.inl rfl) (by first | exact .inl rfl | exact .inr rfl) rfl .nil)) rfl rfl) (sss_cons (ss_if (st_eq hu64 (se_ix hu (se_var 6) se_int) se_str) (sss_cons (ss_asg (i := 7) sc_p_highest.nd rfl (Or.inl rfl) (se_call C_highest (A_p_highest q) (hr.mono (by omega)) rfl tk (sa_cons (se_var 0) (sa_cons (se_ix hu (se_var 6) se_int) (sa_cons (se_var 2) sa_nil)))))
 (sss_one (ss_asg (i := 4) sc_p_highest.nd rfl (Or.inl rfl) (se_max rfl rfl T.b_max (sa_cons (se_var 4) (sa_cons (se_add false (se_sub (se_len rfl T.b_len (sa_cons (se_var 5) sa_nil)) (se_len rfl T.b_len (sa_cons (se_ix hu (se_ix hu (se_var 0) (se_ix hu (se_var 6) se_int)) se_int) sa_nil))) (se_var 7)) sa_nil)))))) sss_nil)
 (sss_one (ss_if (st_eq hu64 (se_ix hu (se_var 6) se_int) se_str) (sss_cons (ss_asg (i := 7) sc_p_highest.nd rfl (Or.inl rfl) (se_max rfl rfl T.b_max (sa_cons (se_call C_highest (A_p_highest q) (hr.mono (by omega)) rfl tk (sa_cons (se_var 0) (sa_cons (se_ix hu (se_var 6) se_int) (sa_cons (se_var 2) sa_nil)))) (sa_cons (se_call C_highest (A_p_highest q) (hr.mono (by omega)) rfl tk (sa_cons (se_var 0) (sa_cons (se_ix hu (se_var 6) se_int) (sa_cons (se_var 2) sa_nil)))) sa_nil))))
 (sss_one (ss_asg (i := 4) sc_p_highest.nd rfl (Or.inl rfl) (se_max rfl rfl T.b_max (sa_cons (se_var 4) (sa_cons (se_add false (se_sub (se_sub (se_len rfl T.b_len (sa_cons (se_var 5) sa_nil)) se_int) (se_len rfl T.b_len (sa_cons (se_ix hu (se_ix hu (se_var 0) (se_ix hu (se_var 6) se_int)) se_int) sa_nil))) (se_var 7)) sa_nil)))))) sss_nil))))
 (sss_cons (ss_setD hu (se_var 2) (se_var 1) (se_var 4))
 (sss_one (ss_ret (se_var 4))))))))
theorem sc_p_height : FnScope n_p_height ["program", "name"] (defScope (top 34)) := ⟨rfl, rfl, rfl, by decide +kernel, rfl, by decide +kernel, by decide +kernel⟩
theorem d_p_height (T : Txt w K mg P tW tP aS) (hx : P.xa = none) (C_highest : Cal Pg w K mg base P "highest" 3 (6 + 64) (s_p_highest 64)) (C_reached : Cal Pg w K mg base P "reached" 2 2 s_p_reached) {f : Addr} {fd : FuncData} (F : L2.Fun K "height" "height" (top 34) f fd) : FnOk Pg w K mg base (L2.CX Pg w) 71 f fd ["program", "name"] (spF K P 2 s_p_height) :=
  okF (N := n_p_height) (body := b_p_height) (a := 2) (n := 3) F sc_p_height rfl rfl hx fun cdv A outer s H E hr tk hp =>
  have hu : _ + 1 < cLine := hu_of hr
  have hu64 : _ + 64 < cLine := hr.units
(sss_cons (ss_for hp rfl (si_it (se_add false (se_lst false (sa_cons (se_var 1) sa_nil)) (se_fr (se_call C_reached A_p_reached (hr.mono (by decide)) rfl tk (sa_cons (se_var 0) (sa_cons (se_var 1) sa_nil)))))) (.name (i := 2) sc_p_height.nd rfl (Or.inl rfl) (by first | exact .inl rfl | exact .inr rfl)) (sss_one (ss_if (st_in hu (se_var 2) (se_fr (se_call C_reached A_p_reached (hr.mono (by decide)) rfl tk (sa_cons (se_var 0) (sa_cons (se_var 2) sa_nil))))) (sss_one (ss_ret se_non)) sss_nil)))
 (sss_one (ss_ret (se_call C_highest (A_p_highest 64) (hr.mono (by decide)) rfl tk (sa_cons (se_var 0) (sa_cons (se_var 1) (sa_cons (se_dnew true) sa_nil)))))))
theorem sc_law_k13 : FnScope n_law_k13 ["_law_script"] (defScope (top 43)) := ⟨rfl, rfl, rfl, by decide +kernel, rfl, by decide +kernel, by decide +kernel⟩
theorem d_law_k13 (T : Txt w K mg P tW tP aS) (hx : P.xa = none) (C__law_value : Cal Pg w K mg base P "_law_value" 3 2 s_value) (C__law_draw : Cal Pg w K mg base P "_law_draw" 3 1 s_draw) (C__law_program : Cal Pg w K mg base P "_law_program" 4 2 s_program_2) (C__law_run : Cal Pg w K mg base P "_law_run" 4 6 s_run_3) (C__law_alike : Cal Pg w K mg base P "_law_alike" 2 1 s_alike) (C__law_deep : Cal Pg w K mg base P "_law_deep" 6 5 s_deep) (C_let_by : Cal Pg w K mg base P "let_by" 2 6 s_p_let_by) (C_height : Cal Pg w K mg base P "height" 2 71 s_p_height) {f : Addr} {fd : FuncData} (F : L2.Fun K "law" "law" (top 43) f fd) : FnOk Pg w K mg base (L2.CX Pg w) 72 f fd ["_law_script"] (spF K P 1 s_law_k13) :=
  okF (N := n_law_k13) (body := b_law_k13) (a := 1) (n := 14) F sc_law_k13 rfl rfl hx fun cdv A outer s H E hr tk hp =>
  have hu : _ + 1 < cLine := hu_of hr
  have hu64 : _ + 64 < cLine := hr.units
(sss_cons (ss_asg (i := 1) sc_law_k13.nd rfl (Or.inl rfl) (se_lst true (sa_cons se_int sa_nil)))
 (sss_cons (ss_asg (i := 2) sc_law_k13.nd rfl (Or.inl rfl) (se_call C__law_value A_value (hr.mono (by decide)) rfl tk (sa_cons (se_var 0) (sa_cons (se_var 1) (sa_cons se_str sa_nil)))))
 (sss_cons (ss_asg (i := 3) sc_law_k13.nd rfl (Or.inl rfl) (se_call C__law_draw A_draw (hr.mono (by decide)) rfl tk (sa_cons (se_var 0) (sa_cons (se_var 1) (sa_cons se_int sa_nil)))))
 (sss_cons (ss_if (st_eq hu64 (se_call C__law_draw A_draw (hr.mono (by decide)) rfl tk (sa_cons (se_var 0) (sa_cons (se_var 1) (sa_cons se_int sa_nil)))) se_int) (sss_one (ss_asg (i := 3) sc_law_k13.nd rfl (Or.inl rfl) (se_add false (se_call C__law_draw A_draw (hr.mono (by decide)) rfl tk (sa_cons (se_var 0) (sa_cons (se_var 1) (sa_cons se_int sa_nil)))) (se_mul false se_int (se_intc rfl T.b_int (sa_cons (se_eq hu64 (se_call C__law_draw A_draw (hr.mono (by decide)) rfl tk (sa_cons (se_var 0) (sa_cons (se_var 1) (sa_cons se_int sa_nil)))) se_int) sa_nil)))))) sss_nil)
 (sss_cons (ss_asg (i := 4) sc_law_k13.nd rfl (Or.inl rfl) (se_call C__law_draw A_draw (hr.mono (by decide)) rfl tk (sa_cons (se_var 0) (sa_cons (se_var 1) (sa_cons se_int sa_nil)))))
 (sss_cons (ss_asg (i := 5) sc_law_k13.nd rfl (Or.inl rfl) (se_eq hu64 (se_call C__law_draw A_draw (hr.mono (by decide)) rfl tk (sa_cons (se_var 0) (sa_cons (se_var 1) (sa_cons se_int sa_nil)))) se_int))
 (sss_cons (ss_asgT rfl sc_law_k13.nd (.cons (i := 6) rfl (Or.inl rfl) (by first | exact .inl rfl | exact .inr rfl) rfl (.cons (i := 7) rfl (Or.inl rfl) (by first | exact .inl rfl | exact .inr rfl) rfl .nil)) (se_call C__law_program A_program_2 (hr.mono (by decide)) rfl tk (sa_cons (se_var 0) (sa_cons (se_var 1) (sa_cons (se_var 2) (sa_cons (se_var 5) sa_nil))))))
 (sss_cons (ss_asg (i := 8) sc_law_k13.nd rfl (Or.inl rfl) (se_lst true sa_nil))
 (sss_cons (ss_for hp rfl (si_rng rfl T.b_range (se_add false (se_call C__law_draw A_draw (hr.mono (by decide)) rfl tk (sa_cons (se_var 0) (sa_cons (se_var 1) (sa_cons se_int sa_nil)))) (se_ix hu (se_lst false (sa_cons se_int (sa_cons se_int (sa_cons se_int (sa_cons se_int (sa_cons se_int (sa_cons se_int sa_nil))))))) (se_call C__law_draw A_draw (hr.mono (by decide)) rfl tk (sa_cons (se_var 0) (sa_cons (se_var 1) (sa_cons se_int sa_nil))))))) (.name (i := 9) sc_law_k13.nd rfl (Or.inl rfl) (by first | exact .inl rfl | exact .inr rfl)) (sss_one (ss_exp (se_append (se_var 8) (sa_cons (se_call C__law_value A_value (hr.mono (by decide)) rfl tk (sa_cons (se_var 0) (sa_cons (se_var 1) (sa_cons (se_ix hu (se_lst false (sa_cons se_str (sa_cons se_str sa_nil))) (se_call C__law_draw A_draw (hr.mono (by decide)) rfl tk (sa_cons (se_var 0) (sa_cons (se_var 1) (sa_cons se_int sa_nil))))) sa_nil)))) sa_nil)))))
 (sss_cons (ss_asg (i := 10) sc_law_k13.nd rfl (Or.inl rfl) (se_add false (se_mul false se_int (se_var 3)) se_int))
 (sss_cons (ss_if (st_w (sw_or (st_cmp op_isnot_bl bo_notB (se_call C_let_by A_p_let_by (hr.mono (by decide)) rfl tk (sa_cons (se_var 6) (sa_cons (se_ix hu (se_var 7) se_int) sa_nil))) se_bl) (sw_or1 (st_cmp op_notN bo_notN (se_call C_height A_p_height (hr.mono (by decide)) rfl tk (sa_cons (se_var 6) (sa_cons (se_ix hu (se_var 7) se_int) sa_nil))) se_non)))) (sss_one (ss_ret se_bl)) sss_nil)
 (sss_cons (ss_asg (i := 11) sc_law_k13.nd rfl (Or.inl rfl) (se_var 10))
 (sss_cons (ss_if (st_eq hu64 (se_var 4) se_int) (sss_one (ss_asg (i := 11) sc_law_k13.nd rfl (Or.inl rfl) (se_call C__law_draw A_draw (hr.mono (by decide)) rfl tk (sa_cons (se_var 0) (sa_cons (se_var 1) (sa_cons (se_var 10) sa_nil)))))) sss_nil)
 (sss_cons (ss_if (st_eq hu64 (se_var 4) se_int) (sss_one (ss_asg (i := 11) sc_law_k13.nd rfl (Or.inl rfl) (se_add false (se_add false (se_var 10) se_int) (se_call C__law_draw A_draw (hr.mono (by decide)) rfl tk (sa_cons (se_var 0) (sa_cons (se_var 1) (sa_cons se_int sa_nil))))))) sss_nil)
 (sss_cons (ss_asg (i := 12) sc_law_k13.nd rfl (Or.inl rfl) (se_call C__law_run A_run_3 (hr.mono (by decide)) rfl tk (sa_cons (se_var 6) (sa_cons (se_ix hu (se_var 7) se_int) (sa_cons (se_add false (se_var 8) (se_lst false (sa_cons (se_var 3) sa_nil))) (sa_cons (se_var 11) sa_nil))))))
 (sss_cons (ss_if (st_cmp op_lt bo_cmp (se_var 11) (se_var 10)) (sss_one (ss_ret (se_and (se_isi (u := "str") (by decide +kernel) rfl T.b_isinstance rfl T.b_str bt_str (se_var 12)) (se_one (se_eq hu64 (se_var 12) se_str))))) sss_nil)
 (sss_cons (ss_asg (i := 13) sc_law_k13.nd rfl (Or.inl rfl) (se_mod (se_mul false (se_var 3) (se_var 2)) (se_pow se_int se_int)))
 (sss_cons (ss_if (st_tru (se_var 5)) (sss_one (ss_asg (i := 13) sc_law_k13.nd rfl (Or.inl rfl) (se_fdiv (se_mul false (se_var 3) (se_add false (se_var 3) se_int)) se_int))) sss_nil)
 (sss_one (ss_ret (se_and (se_call C__law_alike A_alike (hr.mono (by decide)) rfl tk (sa_cons (se_var 12) (sa_cons (se_add false (se_var 8) (se_lst false (sa_cons (se_var 13) sa_nil))) sa_nil))) (se_one (se_call C__law_deep A_deep (hr.mono (by decide)) rfl tk (sa_cons (se_var 6) (sa_cons (se_var 7) (sa_cons (se_var 8) (sa_cons (se_var 3) (sa_cons (se_var 5) (sa_cons (se_var 2) sa_nil)))))))))))))))))))))))))))))
end
theorem all_mk {Pg : Program} {w : World} {K : PySem.W.Frag} {h : Heap} {mg : Str → Option Value} {fa : Addr} (X : K.In h) (G : h.Ns mainGlobals mg) (hfa : mg "law" = some (.ref fa)) {a1 a2 a3 a4 a5 aM tP tW : Addr}
  (na1 : PySem.W.nsIn K mainGlobals "Empty" = some (some (.ref a1)))
  (na2 : PySem.W.nsIn K mainGlobals "WrongKind" = some (some (.ref a2)))
  (na3 : PySem.W.nsIn K mainGlobals "NoBlock" = some (some (.ref a3)))
  (na4 : PySem.W.nsIn K mainGlobals "Apart" = some (some (.ref a4)))
  (na5 : PySem.W.nsIn K mainGlobals "Dry" = some (some (.ref a5)))
  (exa4 : PySem.W.excIn K a4 [.type "ValueError", .type "Exception", .type "BaseException", .type "object"] "ValueError.__new__" = true)
  (kpa4 : PySem.W.keepIn K (.ref a4) = true)
  (sba4 : PySem.W.subIn K (.ref a4) (.type "BaseException") = some true)
  (tya4 : PySem.W.typeIn K (.ref a4) = some (.type "type"))
  (exa5 : PySem.W.excIn K a5 [.type "ValueError", .type "Exception", .type "BaseException", .type "object"] "ValueError.__new__" = true)
  (kpa5 : PySem.W.keepIn K (.ref a5) = true)
  (sba5 : PySem.W.subIn K (.ref a5) (.type "BaseException") = some true)
  (tya5 : PySem.W.typeIn K (.ref a5) = some (.type "type"))
  (exa1 : PySem.W.excIn K a1 [.type "ValueError", .type "Exception", .type "BaseException", .type "object"] "ValueError.__new__" = true)
  (kpa1 : PySem.W.keepIn K (.ref a1) = true)
  (sba1 : PySem.W.subIn K (.ref a1) (.type "BaseException") = some true)
  (tya1 : PySem.W.typeIn K (.ref a1) = some (.type "type"))
  (exa3 : PySem.W.excIn K a3 [.type "ValueError", .type "Exception", .type "BaseException", .type "object"] "ValueError.__new__" = true)
  (kpa3 : PySem.W.keepIn K (.ref a3) = true)
  (sba3 : PySem.W.subIn K (.ref a3) (.type "BaseException") = some true)
  (tya3 : PySem.W.typeIn K (.ref a3) = some (.type "type"))
  (exa2 : PySem.W.excIn K a2 [.type "ValueError", .type "Exception", .type "BaseException", .type "object"] "ValueError.__new__" = true)
  (kpa2 : PySem.W.keepIn K (.ref a2) = true)
  (sba2 : PySem.W.subIn K (.ref a2) (.type "BaseException") = some true)
  (tya2 : PySem.W.typeIn K (.ref a2) = some (.type "type"))
  (naM : PySem.W.nsIn K mainGlobals "Machine" = some (some (.ref aM)))
  (b_bool : PySem.W.nsIn K mainGlobals "bool" = some none)
  (b_int : PySem.W.nsIn K mainGlobals "int" = some none)
  (b_isinstance : PySem.W.nsIn K mainGlobals "isinstance" = some none)
  (b_len : PySem.W.nsIn K mainGlobals "len" = some none)
  (b_list : PySem.W.nsIn K mainGlobals "list" = some none)
  (b_max : PySem.W.nsIn K mainGlobals "max" = some none)
  (b_range : PySem.W.nsIn K mainGlobals "range" = some none)
  (b_str : PySem.W.nsIn K mainGlobals "str" = some none)
  (b_tuple : PySem.W.nsIn K mainGlobals "tuple" = some none)
  (b_zip : PySem.W.nsIn K mainGlobals "zip" = some none)
  {tk_ROUND : Tok}
  (c_ROUND : PySem.W.nsIn K mainGlobals "ROUND" = some (some (.int 1000000000 tk_ROUND)))
  {tk_SIGNS : Tok}
  (c_SIGNS : PySem.W.nsIn K mainGlobals "SIGNS" = some (some (.int 60 tk_SIGNS)))
  (ma4a1 : PySem.W.exmOne K (.ref a1) (.ref a4) = some false)
  (ma4a2 : PySem.W.exmOne K (.ref a2) (.ref a4) = some false)
  (ma4a3 : PySem.W.exmOne K (.ref a3) (.ref a4) = some false)
  (ma4a4 : PySem.W.exmOne K (.ref a4) (.ref a4) = some true)
  (ma4a5 : PySem.W.exmOne K (.ref a5) (.ref a4) = some false)
  (ma5a1 : PySem.W.exmOne K (.ref a1) (.ref a5) = some false)
  (ma5a2 : PySem.W.exmOne K (.ref a2) (.ref a5) = some false)
  (ma5a3 : PySem.W.exmOne K (.ref a3) (.ref a5) = some false)
  (ma5a4 : PySem.W.exmOne K (.ref a4) (.ref a5) = some false)
  (ma5a5 : PySem.W.exmOne K (.ref a5) (.ref a5) = some true)
  (ma1a1 : PySem.W.exmOne K (.ref a1) (.ref a1) = some true)
  (ma1a2 : PySem.W.exmOne K (.ref a2) (.ref a1) = some false)
  (ma1a3 : PySem.W.exmOne K (.ref a3) (.ref a1) = some false)
  (ma1a4 : PySem.W.exmOne K (.ref a4) (.ref a1) = some false)
  (ma1a5 : PySem.W.exmOne K (.ref a5) (.ref a1) = some false)
  (ma3a1 : PySem.W.exmOne K (.ref a1) (.ref a3) = some false)
  (ma3a2 : PySem.W.exmOne K (.ref a2) (.ref a3) = some false)
  (ma3a3 : PySem.W.exmOne K (.ref a3) (.ref a3) = some true)
  (ma3a4 : PySem.W.exmOne K (.ref a4) (.ref a3) = some false)
  (ma3a5 : PySem.W.exmOne K (.ref a5) (.ref a3) = some false)
  (ma2a1 : PySem.W.exmOne K (.ref a1) (.ref a2) = some false)
  (ma2a2 : PySem.W.exmOne K (.ref a2) (.ref a2) = some true)
  (ma2a3 : PySem.W.exmOne K (.ref a3) (.ref a2) = some false)
  (ma2a4 : PySem.W.exmOne K (.ref a4) (.ref a2) = some false)
  (ma2a5 : PySem.W.exmOne K (.ref a5) (.ref a2) = some false)
  {estP : Array DictEntry} {nntP : Nat}
  (gtP : PySem.W.nsIn K mainGlobals "PUTS" = some (some (.ref tP)))
  (ltP : K.lookup tP = some ⟨.type "dict", none, .dict estP nntP, #[]⟩)
  (ktP : PySem.W.KeysLit w.params estP.toList)
  (rtP : TabRows K tP T_PUTS)
  {estW : Array DictEntry} {nntW : Nat}
  (gtW : PySem.W.nsIn K mainGlobals "WANTS" = some (some (.ref tW)))
  (ltW : K.lookup tW = some ⟨.type "dict", none, .dict estW nntW, #[]⟩)
  (ktW : PySem.W.KeysLit w.params estW.toList)
  (rtW : TabRows K tW T_WANTS)
  (clpg : PySem.W.plainGet K aM Str.empty = true)
  (clhd : PySem.W.hasDictIn K aM = true)
  (clpo : PySem.W.plainOver K aM = true)
  (clsa : PySem.W.findIn K (.ref aM) "__setattr__" = some (some (.builtin "object.__setattr__")))
  (mkm : PySem.W.makesIn K aM = true)
  (mkk : PySem.W.keepIn K (.ref aM) = true)
  (nf_frames : PySem.W.findIn K (.ref aM) "frames" = some none)
  (nf_program : PySem.W.findIn K (.ref aM) "program" = some none)
  (nf_stack : PySem.W.findIn K (.ref aM) "stack" = some none)
  (D_draw : DefAt K mg "_law_draw" (top 36) ["_law_script", "_law_tape", "_law_many"])
  (D_words : DefAt K mg "_law_words" (top 37) ["_law_cell", "_law_size"])
  (D_value : DefAt K mg "_law_value" (top 38) ["_law_script", "_law_tape", "_law_kind"])
  (D_program_2 : DefAt K mg "_law_program" (top 40) ["_law_script", "_law_tape", "_law_some", "_law_leaves"])
  (D_p_block_of : DefAt K mg "block_of" (top 21) ["program", "name"])
  (D_m_leave : MethAt K aM "leave" "Machine.leave" (inClass (top 24) 1) ["self"])
  (D_m_init : MethAt K aM "__init__" "Machine.__init__" (inClass (top 24) 0) ["self", "program", "name", "stack"])
  (D_m_over : MethAt K aM "over" "Machine.over" (inClass (top 24) 2) ["self"])
  (D_p_need : DefAt K mg "need" (top 14) ["kinds", "wanted"])
  (D_p_wants : DefAt K mg "wants" (top 13) ["row"])
  (D_p_kind_of : DefAt K mg "kind_of" (top 11) ["value"])
  (D_p_kinds_of : DefAt K mg "kinds_of" (top 12) ["stack"])
  (D_p_reckoned : DefAt K mg "reckoned" (top 15) ["row", "low", "top"])
  (D_p_done : DefAt K mg "done" (top 16) ["stack", "row"])
  (D_m_step : MethAt K aM "step" "Machine.step" (inClass (top 24) 3) ["self"])
  (D_p_run : DefAt K mg "run" (top 25) ["program", "name", "stack", "fuel"])
  (D_run_3 : DefAt K mg "_law_run" (top 41) ["_law_program_here", "_law_name", "_law_stack", "_law_fuel"])
  (D_alike : DefAt K mg "_law_alike" (top 39) ["_law_found", "_law_due"])
  (D_deep : DefAt K mg "_law_deep" (top 42) ["_law_program_here", "_law_names", "_law_beneath", "_law_many", "_law_leaves", "_law_some"])
  (D_p_named : DefAt K mg "named" (top 30) ["block"])
  (D_p_reached : DefAt K mg "reached" (top 31) ["program", "name"])
  (D_p_plainly : DefAt K mg "plainly" (top 19) ["kinds", "row"])
  (D_p_called : DefAt K mg "called" (top 20) ["kinds", "block"])
  (D_p_behind : DefAt K mg "behind" (top 22) ["program", "kinds", "row"])
  (D_p_went : DefAt K mg "went" (top 27) ["program", "name"])
  (D_p_fault : DefAt K mg "fault" (top 29) ["program", "name"])
  (D_p_let_by : DefAt K mg "let_by" (top 32) ["program", "name"])
  (D_p_trail_of : DefAt K mg "trail_of" (top 28) ["program", "name"])
  (D_p_highest : DefAt K mg "highest" (top 33) ["program", "name", "known"])
  (D_p_height : DefAt K mg "height" (top 34) ["program", "name"])
  {oc kV dc pm cd ct : Value} {odd an : Option Addr} {sl : Array (Option Value)} {f : Addr}
  (aL : PySem.W.nsIn K mainGlobals "law" = some (some (.ref f)))
  (lL : K.lookup f = some ⟨oc, odd, .func (PySem.W.fnOf "law" "law" (defArgs (top 43)) (defBody (top 43)) (defScope (top 43)) .none kV dc pm an cd ct), sl⟩)
  (cL : PySem.W.codeIn K cd "law" = true)
  (kL : PySem.W.keepIn K (.ref f) = true) :
  ∃ fd : FuncData, (∀ (s : Shared) (v : Value), BindsTo s fd ⟨[v], []⟩ [("_law_script", v)]) ∧ ∀ base : Heap, K.In base → base.Ns mainGlobals mg → FnOk Pg w K mg base (L2.CX Pg w) 72 fa fd ["_law_script"] (spLaw K) := by
  have e := hfa.symm.trans (PySem.W.mg_of X G aL)
  cases e
  have T : Txt w K mg ⟨aM, ecs a1 a2 a3 a4 a5, none⟩ tW tP a1 :=
    { b_bool := PySem.W.mg_none_of X G b_bool,
      b_int := PySem.W.mg_none_of X G b_int,
      b_isinstance := PySem.W.mg_none_of X G b_isinstance,
      b_len := PySem.W.mg_none_of X G b_len,
      b_list := PySem.W.mg_none_of X G b_list,
      b_max := PySem.W.mg_none_of X G b_max,
      b_range := PySem.W.mg_none_of X G b_range,
      b_str := PySem.W.mg_none_of X G b_str,
      b_tuple := PySem.W.mg_none_of X G b_tuple,
      b_zip := PySem.W.mg_none_of X G b_zip,
      c_ROUND := ⟨_, PySem.W.mg_of X G c_ROUND⟩,
      c_SIGNS := ⟨_, PySem.W.mg_of X G c_SIGNS⟩,
      n_Apart := PySem.W.mg_of X G na4,
      k_Apart := catch_mk ma4a1 ma4a2 ma4a3 ma4a4 ma4a5,
      n_Dry := PySem.W.mg_of X G na5,
      k_Dry := catch_mk ma5a1 ma5a2 ma5a3 ma5a4 ma5a5,
      n_Empty := PySem.W.mg_of X G na1,
      k_Empty := catch_mk ma1a1 ma1a2 ma1a3 ma1a4 ma1a5,
      n_NoBlock := PySem.W.mg_of X G na3,
      k_NoBlock := catch_mk ma3a1 ma3a2 ma3a3 ma3a4 ma3a5,
      n_WrongKind := PySem.W.mg_of X G na2,
      k_WrongKind := catch_mk ma2a1 ma2a2 ma2a3 ma2a4 ma2a5,
      g_PUTS := PySem.W.mg_of X G gtP,
      t_PUTS := tab_mk ltP ktP rtP,
      g_WANTS := PySem.W.mg_of X G gtW,
      t_WANTS := tab_mk ltW ktW rtW,
      x_Apart := exf_mk X G na4 exa4 kpa4 sba4 tya4,
      x_Dry := exf_mk X G na5 exa5 kpa5 sba5 tya5,
      x_Empty := exf_mk X G na1 exa1 kpa1 sba1 tya1,
      x_NoBlock := exf_mk X G na3 exa3 kpa3 sba3 tya3,
      x_WrongKind := exf_mk X G na2 exa2 kpa2 sba2 tya2,
      cl := ⟨clpg, clhd, clpo, clsa⟩,
      gM := PySem.W.mg_of X G naM,
      n_frames := nf_frames,
      n_program := nf_program,
      n_stack := nf_stack }
  refine ⟨PySem.W.fnOf "law" "law" (defArgs (top 43)) (defBody (top 43)) (defScope (top 43)) .none kV dc pm an cd ct, fun s v => .of_eq rfl, fun base _ _ => ?_⟩
  clear X G
  have C_draw := cal_mk (Pg := Pg) (w := w) (base := base) D_draw fun F => d_draw T rfl  F
  have C_words := cal_mk (Pg := Pg) (w := w) (base := base) D_words fun F => d_words T rfl  F
  have C_value := cal_mk (Pg := Pg) (w := w) (base := base) D_value fun F => d_value T rfl C_draw C_words F
  have C_program_2 := cal_mk (Pg := Pg) (w := w) (base := base) D_program_2 fun F => d_program_2 T rfl C_words C_draw F
  have C_p_block_of := cal_mk (Pg := Pg) (w := w) (base := base) D_p_block_of fun F => d_p_block_of T rfl  F
  have C_m_leave := calm_mk (Pg := Pg) (w := w) (mg := mg) (base := base) (P := ⟨aM, ecs a1 a2 a3 a4 a5, none⟩) D_m_leave fun F => d_m_leave T rfl  F
  have C_m_init := cali_mk (Pg := Pg) (w := w) (mg := mg) (base := base) (P := ⟨aM, ecs a1 a2 a3 a4 a5, none⟩) D_m_init mkm mkk fun F => d_m_init T rfl C_p_block_of C_m_leave F
  have C_m_over := calm_mk (Pg := Pg) (w := w) (mg := mg) (base := base) (P := ⟨aM, ecs a1 a2 a3 a4 a5, none⟩) D_m_over fun F => d_m_over T rfl  F
  have C_p_need := cal_mk (Pg := Pg) (w := w) (base := base) D_p_need fun F => d_p_need T rfl  F
  have C_p_wants := cal_mk (Pg := Pg) (w := w) (base := base) D_p_wants fun F => d_p_wants T rfl  F
  have C_p_kind_of := cal_mk (Pg := Pg) (w := w) (base := base) D_p_kind_of fun F => d_p_kind_of T rfl  F
  have C_p_kinds_of := cal_mk (Pg := Pg) (w := w) (base := base) D_p_kinds_of fun F => d_p_kinds_of T rfl C_p_kind_of F
  have C_p_reckoned := cal_mk (Pg := Pg) (w := w) (base := base) D_p_reckoned fun F => d_p_reckoned T rfl  F
  have C_p_done := cal_mk (Pg := Pg) (w := w) (base := base) D_p_done fun F => d_p_done T rfl C_p_wants C_p_need C_p_kinds_of C_p_reckoned F
  have C_m_step := calm_mk (Pg := Pg) (w := w) (mg := mg) (base := base) (P := ⟨aM, ecs a1 a2 a3 a4 a5, none⟩) D_m_step fun F => d_m_step T rfl C_m_over C_m_leave C_p_block_of C_p_need C_p_done C_p_kinds_of F
  have C_p_run := cal_mk (Pg := Pg) (w := w) (base := base) D_p_run fun F => d_p_run T rfl C_m_init C_m_over C_m_step F
  have C_run_3 := cal_mk (Pg := Pg) (w := w) (base := base) D_run_3 fun F => d_run_3 T rfl C_p_run F
  have C_alike := cal_mk (Pg := Pg) (w := w) (base := base) D_alike fun F => d_alike T rfl  F
  have C_deep := cal_mk (Pg := Pg) (w := w) (base := base) D_deep fun F => d_deep T rfl C_m_init C_m_step C_alike C_m_over F
  have C_p_named := cal_mk (Pg := Pg) (w := w) (base := base) D_p_named fun F => d_p_named T rfl  F
  have C_p_reached := cal_mk (Pg := Pg) (w := w) (base := base) D_p_reached fun F => d_p_reached T rfl C_p_named F
  have C_p_plainly := cal_mk (Pg := Pg) (w := w) (base := base) D_p_plainly fun F => d_p_plainly T rfl C_p_wants C_p_need F
  have C_p_called := cal_mk (Pg := Pg) (w := w) (base := base) D_p_called fun F => d_p_called T rfl C_p_need F
  have C_p_behind := cal_mk (Pg := Pg) (w := w) (base := base) D_p_behind fun F => d_p_behind T rfl C_p_plainly C_p_called C_p_need C_p_block_of F
  have C_p_went := cal_mk (Pg := Pg) (w := w) (base := base) D_p_went fun F => d_p_went T rfl C_p_behind F
  have C_p_fault := cal_mk (Pg := Pg) (w := w) (base := base) D_p_fault fun F => d_p_fault T rfl C_p_went F
  have C_p_let_by := cal_mk (Pg := Pg) (w := w) (base := base) D_p_let_by fun F => d_p_let_by T rfl C_p_reached C_p_fault F
  have C_p_trail_of := cal_mk (Pg := Pg) (w := w) (base := base) D_p_trail_of fun F => d_p_trail_of T rfl C_p_went F
  have C_p_highest : ∀ q, Cal Pg w K mg base ⟨aM, ecs a1 a2 a3 a4 a5, none⟩ "highest" 3 (6 + q) (s_p_highest q) := fun q => by
    induction q with
    | zero => exact cal_mk (Pg := Pg) (w := w) (base := base) D_p_highest fun _ => ok_stuck
    | succ q ih => exact cal_mk (Pg := Pg) (w := w) (base := base) D_p_highest fun F => d_p_highest q T rfl C_p_trail_of ih F
  have C_p_height := cal_mk (Pg := Pg) (w := w) (base := base) D_p_height fun F => d_p_height T rfl (C_p_highest 64) C_p_reached F
  exact weak (d_law_k13 T rfl C_value C_draw C_program_2 C_run_3 C_alike C_deep C_p_let_by C_p_height (fun_mk lL cL kL)) (law_sp (fun ns _ => law_k13_ok ns))
end Lk13
end Py
open PySem PySem.W PyProof.Rows
set_option maxRecDepth 100000 in
set_option maxHeartbeats 0 in
theorem PySem.Challenge.cw_stackproof_k13_counting_holds : PySem.Challenge.rw_stackproof_k13_counting.Holds := by
  w_on; o_law; k_head; (case hw => w_witness2)
  k_fill
  refine Py.walkL (l := PySem.Challenge.rw_stackproof_k13_counting) (k := 72) (x := "_law_script") rfl rfl ⟨rfl, by decide, by decide⟩ (fun w h Y => PySem.W.kIn_of Y) ?F
  case F =>
    intro w mg fa h KX G hmg
    refine' Py.Lk13.all_mk KX G hmg ?na1 ?na2 ?na3 ?na4 ?na5 ?exa4 ?kpa4 ?sba4 ?tya4 ?exa5 ?kpa5 ?sba5 ?tya5 ?exa1 ?kpa1 ?sba1 ?tya1 ?exa3 ?kpa3 ?sba3 ?tya3 ?exa2 ?kpa2 ?sba2 ?tya2 ?naM ?b_bool ?b_int ?b_isinstance ?b_len ?b_list ?b_max ?b_range ?b_str ?b_tuple ?b_zip ?c_ROUND ?c_SIGNS ?ma4a1 ?ma4a2 ?ma4a3 ?ma4a4 ?ma4a5 ?ma5a1 ?ma5a2 ?ma5a3 ?ma5a4 ?ma5a5 ?ma1a1 ?ma1a2 ?ma1a3 ?ma1a4 ?ma1a5 ?ma3a1 ?ma3a2 ?ma3a3 ?ma3a4 ?ma3a5 ?ma2a1 ?ma2a2 ?ma2a3 ?ma2a4 ?ma2a5 ?gtP ?ltP ?ktP ?rtP ?gtW ?ltW ?ktW ?rtW ?clpg ?clhd ?clpo ?clsa ?mkm ?mkk ?nf_frames ?nf_program ?nf_stack ?D_draw ?D_words ?D_value ?D_program_2 ?D_p_block_of ?D_m_leave ?D_m_init ?D_m_over ?D_p_need ?D_p_wants ?D_p_kind_of ?D_p_kinds_of ?D_p_reckoned ?D_p_done ?D_m_step ?D_p_run ?D_run_3 ?D_alike ?D_deep ?D_p_named ?D_p_reached ?D_p_plainly ?D_p_called ?D_p_behind ?D_p_went ?D_p_fault ?D_p_let_by ?D_p_trail_of ?D_p_highest ?D_p_height ?aL ?lL ?cL ?kL
    (case na1 => first | k_is | rfl | decide +kernel)
    (case na2 => first | k_is | rfl | decide +kernel)
    (case na3 => first | k_is | rfl | decide +kernel)
    (case na4 => first | k_is | rfl | decide +kernel)
    (case na5 => first | k_is | rfl | decide +kernel)
    (case exa4 => k_exc)
    (case kpa4 => first | k_is | rfl | decide +kernel)
    (case sba4 => first | k_is | rfl | decide +kernel)
    (case tya4 => first | k_is | rfl | decide +kernel)
    (case exa5 => k_exc)
    (case kpa5 => first | k_is | rfl | decide +kernel)
    (case sba5 => first | k_is | rfl | decide +kernel)
    (case tya5 => first | k_is | rfl | decide +kernel)
    (case exa1 => k_exc)
    (case kpa1 => first | k_is | rfl | decide +kernel)
    (case sba1 => first | k_is | rfl | decide +kernel)
    (case tya1 => first | k_is | rfl | decide +kernel)
    (case exa3 => k_exc)
    (case kpa3 => first | k_is | rfl | decide +kernel)
    (case sba3 => first | k_is | rfl | decide +kernel)
    (case tya3 => first | k_is | rfl | decide +kernel)
    (case exa2 => k_exc)
    (case kpa2 => first | k_is | rfl | decide +kernel)
    (case sba2 => first | k_is | rfl | decide +kernel)
    (case tya2 => first | k_is | rfl | decide +kernel)
    (case naM => first | k_is | rfl | decide +kernel)
    (case b_bool => first | k_is | rfl | decide +kernel)
    (case b_int => first | k_is | rfl | decide +kernel)
    (case b_isinstance => first | k_is | rfl | decide +kernel)
    (case b_len => first | k_is | rfl | decide +kernel)
    (case b_list => first | k_is | rfl | decide +kernel)
    (case b_max => first | k_is | rfl | decide +kernel)
    (case b_range => first | k_is | rfl | decide +kernel)
    (case b_str => first | k_is | rfl | decide +kernel)
    (case b_tuple => first | k_is | rfl | decide +kernel)
    (case b_zip => first | k_is | rfl | decide +kernel)
    (case c_ROUND => first | k_is | rfl | decide +kernel)
    (case c_SIGNS => first | k_is | rfl | decide +kernel)
    (case ma4a1 => first | k_is | rfl | decide +kernel)
    (case ma4a2 => first | k_is | rfl | decide +kernel)
    (case ma4a3 => first | k_is | rfl | decide +kernel)
    (case ma4a4 => first | k_is | rfl | decide +kernel)
    (case ma4a5 => first | k_is | rfl | decide +kernel)
    (case ma5a1 => first | k_is | rfl | decide +kernel)
    (case ma5a2 => first | k_is | rfl | decide +kernel)
    (case ma5a3 => first | k_is | rfl | decide +kernel)
    (case ma5a4 => first | k_is | rfl | decide +kernel)
    (case ma5a5 => first | k_is | rfl | decide +kernel)
    (case ma1a1 => first | k_is | rfl | decide +kernel)
    (case ma1a2 => first | k_is | rfl | decide +kernel)
    (case ma1a3 => first | k_is | rfl | decide +kernel)
    (case ma1a4 => first | k_is | rfl | decide +kernel)
    (case ma1a5 => first | k_is | rfl | decide +kernel)
    (case ma3a1 => first | k_is | rfl | decide +kernel)
    (case ma3a2 => first | k_is | rfl | decide +kernel)
    (case ma3a3 => first | k_is | rfl | decide +kernel)
    (case ma3a4 => first | k_is | rfl | decide +kernel)
    (case ma3a5 => first | k_is | rfl | decide +kernel)
    (case ma2a1 => first | k_is | rfl | decide +kernel)
    (case ma2a2 => first | k_is | rfl | decide +kernel)
    (case ma2a3 => first | k_is | rfl | decide +kernel)
    (case ma2a4 => first | k_is | rfl | decide +kernel)
    (case ma2a5 => first | k_is | rfl | decide +kernel)
    (case gtP => first | k_is | rfl | decide +kernel)
    (case ltP => first | k_is | rfl | decide +kernel)
    (case ktP => k_keys)
    (case rtP => (unfold Py.T_PUTS; refine' (.cons ?rtPn0 ?rtPl0 ?rtPs0 ?rtPv0 (.cons ?rtPn1 ?rtPl1 ?rtPs1 ?rtPv1 (.cons ?rtPn2 ?rtPl2 ?rtPs2 ?rtPv2 (.cons ?rtPn3 ?rtPl3 ?rtPs3 ?rtPv3 (.cons ?rtPn4 ?rtPl4 ?rtPs4 ?rtPv4 (.cons ?rtPn5 ?rtPl5 ?rtPs5 ?rtPv5 (.cons ?rtPn6 ?rtPl6 ?rtPs6 ?rtPv6 (.cons ?rtPn7 ?rtPl7 ?rtPs7 ?rtPv7 .nil)))))))); (case rtPn0 => first | k_is | rfl | decide +kernel); (case rtPl0 => first | k_is | rfl | decide +kernel); (case rtPs0 => decide); (case rtPn1 => first | k_is | rfl | decide +kernel); (case rtPl1 => first | k_is | rfl | decide +kernel); (case rtPs1 => decide); (case rtPn2 => first | k_is | rfl | decide +kernel); (case rtPl2 => first | k_is | rfl | decide +kernel); (case rtPs2 => decide); (case rtPn3 => first | k_is | rfl | decide +kernel); (case rtPl3 => first | k_is | rfl | decide +kernel); (case rtPs3 => decide); (case rtPn4 => first | k_is | rfl | decide +kernel); (case rtPl4 => first | k_is | rfl | decide +kernel); (case rtPs4 => decide); (case rtPn5 => first | k_is | rfl | decide +kernel); (case rtPl5 => first | k_is | rfl | decide +kernel); (case rtPs5 => decide); (case rtPn6 => first | k_is | rfl | decide +kernel); (case rtPl6 => first | k_is | rfl | decide +kernel); (case rtPs6 => decide); (case rtPn7 => first | k_is | rfl | decide +kernel); (case rtPl7 => first | k_is | rfl | decide +kernel); (case rtPs7 => decide); (case rtPv7 => exact (.s .nil)); (case rtPv6 => exact (.s .nil)); (case rtPv5 => exact (.s .nil)); (case rtPv4 => exact (.s .nil)); (case rtPv3 => exact (.s .nil)); (case rtPv2 => exact (.s .nil)); (case rtPv1 => exact (.s .nil)); (case rtPv0 => exact (.s .nil))))
    (case gtW => first | k_is | rfl | decide +kernel)
    (case ltW => first | k_is | rfl | decide +kernel)
    (case ktW => k_keys)
    (case rtW => (unfold Py.T_WANTS; refine' (.cons ?rtWn0 ?rtWl0 ?rtWs0 ?rtWv0 (.cons ?rtWn1 ?rtWl1 ?rtWs1 ?rtWv1 (.cons ?rtWn2 ?rtWl2 ?rtWs2 ?rtWv2 (.cons ?rtWn3 ?rtWl3 ?rtWs3 ?rtWv3 (.cons ?rtWn4 ?rtWl4 ?rtWs4 ?rtWv4 (.cons ?rtWn5 ?rtWl5 ?rtWs5 ?rtWv5 (.cons ?rtWn6 ?rtWl6 ?rtWs6 ?rtWv6 (.cons ?rtWn7 ?rtWl7 ?rtWs7 ?rtWv7 (.cons ?rtWn8 ?rtWl8 ?rtWs8 ?rtWv8 (.cons ?rtWn9 ?rtWl9 ?rtWs9 ?rtWv9 .nil)))))))))); (case rtWn0 => first | k_is | rfl | decide +kernel); (case rtWl0 => first | k_is | rfl | decide +kernel); (case rtWs0 => decide); (case rtWn1 => first | k_is | rfl | decide +kernel); (case rtWl1 => first | k_is | rfl | decide +kernel); (case rtWs1 => decide); (case rtWn2 => first | k_is | rfl | decide +kernel); (case rtWl2 => first | k_is | rfl | decide +kernel); (case rtWs2 => decide); (case rtWn3 => first | k_is | rfl | decide +kernel); (case rtWl3 => first | k_is | rfl | decide +kernel); (case rtWs3 => decide); (case rtWn4 => first | k_is | rfl | decide +kernel); (case rtWl4 => first | k_is | rfl | decide +kernel); (case rtWs4 => decide); (case rtWn5 => first | k_is | rfl | decide +kernel); (case rtWl5 => first | k_is | rfl | decide +kernel); (case rtWs5 => decide); (case rtWn6 => first | k_is | rfl | decide +kernel); (case rtWl6 => first | k_is | rfl | decide +kernel); (case rtWs6 => decide); (case rtWn7 => first | k_is | rfl | decide +kernel); (case rtWl7 => first | k_is | rfl | decide +kernel); (case rtWs7 => decide); (case rtWn8 => first | k_is | rfl | decide +kernel); (case rtWl8 => first | k_is | rfl | decide +kernel); (case rtWs8 => decide); (case rtWn9 => first | k_is | rfl | decide +kernel); (case rtWl9 => first | k_is | rfl | decide +kernel); (case rtWs9 => decide); (case rtWv9 => exact (.n .nil)); (case rtWv8 => exact (.n (.n .nil))); (case rtWv7 => exact (.s .nil)); (case rtWv6 => exact (.s .nil)); (case rtWv5 => exact (.s (.s .nil))); (case rtWv4 => exact (.s (.s .nil))); (case rtWv3 => exact (.s (.s .nil))); (case rtWv2 => exact (.s (.s .nil))); (case rtWv1 => exact .nil); (case rtWv0 => exact .nil)))
    (case clpg => first | k_is | rfl | decide +kernel)
    (case clhd => first | k_is | rfl | decide +kernel)
    (case clpo => first | k_is | rfl | decide +kernel)
    (case clsa => first | k_is | rfl | decide +kernel)
    (case mkm => first | k_is | rfl | decide +kernel)
    (case mkk => first | k_is | rfl | decide +kernel)
    (case nf_frames => first | k_is | rfl | decide +kernel)
    (case nf_program => first | k_is | rfl | decide +kernel)
    (case nf_stack => first | k_is | rfl | decide +kernel)
    (case D_draw => (refine' Py.def_mk KX G ?da ?dl ?dc ?dk ?db; (case da => k_is); (case dl => k_is); (case dc => k_is); (case dk => k_is); (case db => exact fun _ _ _ _ _ _ us hl => match us, hl with | [_, _, _], _ => rfl)))
    (case D_words => (refine' Py.def_mk KX G ?da ?dl ?dc ?dk ?db; (case da => k_is); (case dl => k_is); (case dc => k_is); (case dk => k_is); (case db => exact fun _ _ _ _ _ _ us hl => match us, hl with | [_, _], _ => rfl)))
    (case D_value => (refine' Py.def_mk KX G ?da ?dl ?dc ?dk ?db; (case da => k_is); (case dl => k_is); (case dc => k_is); (case dk => k_is); (case db => exact fun _ _ _ _ _ _ us hl => match us, hl with | [_, _, _], _ => rfl)))
    (case D_program_2 => (refine' Py.def_mk KX G ?da ?dl ?dc ?dk ?db; (case da => k_is); (case dl => k_is); (case dc => k_is); (case dk => k_is); (case db => exact fun _ _ _ _ _ _ us hl => match us, hl with | [_, _, _, _], _ => rfl)))
    (case D_p_block_of => (refine' Py.def_mk KX G ?da ?dl ?dc ?dk ?db; (case da => k_is); (case dl => k_is); (case dc => k_is); (case dk => k_is); (case db => exact fun _ _ _ _ _ _ us hl => match us, hl with | [_, _], _ => rfl)))
    (case D_m_leave => (refine' Py.meth_mk ?da ?dl ?di ?dc ?dk ?db; (case da => k_is); (case dl => k_is); (case di => first | k_is | rfl | decide +kernel); (case dc => k_is); (case dk => k_is); (case db => exact fun _ _ _ _ _ _ us hl => match us, hl with | [_], _ => rfl)))
    (case D_m_init => (refine' Py.meth_mk ?da ?dl ?di ?dc ?dk ?db; (case da => k_is); (case dl => k_is); (case di => first | k_is | rfl | decide +kernel); (case dc => k_is); (case dk => k_is); (case db => exact fun _ _ _ _ _ _ us hl => match us, hl with | [_, _, _, _], _ => rfl)))
    (case D_m_over => (refine' Py.meth_mk ?da ?dl ?di ?dc ?dk ?db; (case da => k_is); (case dl => k_is); (case di => first | k_is | rfl | decide +kernel); (case dc => k_is); (case dk => k_is); (case db => exact fun _ _ _ _ _ _ us hl => match us, hl with | [_], _ => rfl)))
    (case D_p_need => (refine' Py.def_mk KX G ?da ?dl ?dc ?dk ?db; (case da => k_is); (case dl => k_is); (case dc => k_is); (case dk => k_is); (case db => exact fun _ _ _ _ _ _ us hl => match us, hl with | [_, _], _ => rfl)))
    (case D_p_wants => (refine' Py.def_mk KX G ?da ?dl ?dc ?dk ?db; (case da => k_is); (case dl => k_is); (case dc => k_is); (case dk => k_is); (case db => exact fun _ _ _ _ _ _ us hl => match us, hl with | [_], _ => rfl)))
    (case D_p_kind_of => (refine' Py.def_mk KX G ?da ?dl ?dc ?dk ?db; (case da => k_is); (case dl => k_is); (case dc => k_is); (case dk => k_is); (case db => exact fun _ _ _ _ _ _ us hl => match us, hl with | [_], _ => rfl)))
    (case D_p_kinds_of => (refine' Py.def_mk KX G ?da ?dl ?dc ?dk ?db; (case da => k_is); (case dl => k_is); (case dc => k_is); (case dk => k_is); (case db => exact fun _ _ _ _ _ _ us hl => match us, hl with | [_], _ => rfl)))
    (case D_p_reckoned => (refine' Py.def_mk KX G ?da ?dl ?dc ?dk ?db; (case da => k_is); (case dl => k_is); (case dc => k_is); (case dk => k_is); (case db => exact fun _ _ _ _ _ _ us hl => match us, hl with | [_, _, _], _ => rfl)))
    (case D_p_done => (refine' Py.def_mk KX G ?da ?dl ?dc ?dk ?db; (case da => k_is); (case dl => k_is); (case dc => k_is); (case dk => k_is); (case db => exact fun _ _ _ _ _ _ us hl => match us, hl with | [_, _], _ => rfl)))
    (case D_m_step => (refine' Py.meth_mk ?da ?dl ?di ?dc ?dk ?db; (case da => k_is); (case dl => k_is); (case di => first | k_is | rfl | decide +kernel); (case dc => k_is); (case dk => k_is); (case db => exact fun _ _ _ _ _ _ us hl => match us, hl with | [_], _ => rfl)))
    (case D_p_run => (refine' Py.def_mk KX G ?da ?dl ?dc ?dk ?db; (case da => k_is); (case dl => k_is); (case dc => k_is); (case dk => k_is); (case db => exact fun _ _ _ _ _ _ us hl => match us, hl with | [_, _, _, _], _ => rfl)))
    (case D_run_3 => (refine' Py.def_mk KX G ?da ?dl ?dc ?dk ?db; (case da => k_is); (case dl => k_is); (case dc => k_is); (case dk => k_is); (case db => exact fun _ _ _ _ _ _ us hl => match us, hl with | [_, _, _, _], _ => rfl)))
    (case D_alike => (refine' Py.def_mk KX G ?da ?dl ?dc ?dk ?db; (case da => k_is); (case dl => k_is); (case dc => k_is); (case dk => k_is); (case db => exact fun _ _ _ _ _ _ us hl => match us, hl with | [_, _], _ => rfl)))
    (case D_deep => (refine' Py.def_mk KX G ?da ?dl ?dc ?dk ?db; (case da => k_is); (case dl => k_is); (case dc => k_is); (case dk => k_is); (case db => exact fun _ _ _ _ _ _ us hl => match us, hl with | [_, _, _, _, _, _], _ => rfl)))
    (case D_p_named => (refine' Py.def_mk KX G ?da ?dl ?dc ?dk ?db; (case da => k_is); (case dl => k_is); (case dc => k_is); (case dk => k_is); (case db => exact fun _ _ _ _ _ _ us hl => match us, hl with | [_], _ => rfl)))
    (case D_p_reached => (refine' Py.def_mk KX G ?da ?dl ?dc ?dk ?db; (case da => k_is); (case dl => k_is); (case dc => k_is); (case dk => k_is); (case db => exact fun _ _ _ _ _ _ us hl => match us, hl with | [_, _], _ => rfl)))
    (case D_p_plainly => (refine' Py.def_mk KX G ?da ?dl ?dc ?dk ?db; (case da => k_is); (case dl => k_is); (case dc => k_is); (case dk => k_is); (case db => exact fun _ _ _ _ _ _ us hl => match us, hl with | [_, _], _ => rfl)))
    (case D_p_called => (refine' Py.def_mk KX G ?da ?dl ?dc ?dk ?db; (case da => k_is); (case dl => k_is); (case dc => k_is); (case dk => k_is); (case db => exact fun _ _ _ _ _ _ us hl => match us, hl with | [_, _], _ => rfl)))
    (case D_p_behind => (refine' Py.def_mk KX G ?da ?dl ?dc ?dk ?db; (case da => k_is); (case dl => k_is); (case dc => k_is); (case dk => k_is); (case db => exact fun _ _ _ _ _ _ us hl => match us, hl with | [_, _, _], _ => rfl)))
    (case D_p_went => (refine' Py.def_mk KX G ?da ?dl ?dc ?dk ?db; (case da => k_is); (case dl => k_is); (case dc => k_is); (case dk => k_is); (case db => exact fun _ _ _ _ _ _ us hl => match us, hl with | [_, _], _ => rfl)))
    (case D_p_fault => (refine' Py.def_mk KX G ?da ?dl ?dc ?dk ?db; (case da => k_is); (case dl => k_is); (case dc => k_is); (case dk => k_is); (case db => exact fun _ _ _ _ _ _ us hl => match us, hl with | [_, _], _ => rfl)))
    (case D_p_let_by => (refine' Py.def_mk KX G ?da ?dl ?dc ?dk ?db; (case da => k_is); (case dl => k_is); (case dc => k_is); (case dk => k_is); (case db => exact fun _ _ _ _ _ _ us hl => match us, hl with | [_, _], _ => rfl)))
    (case D_p_trail_of => (refine' Py.def_mk KX G ?da ?dl ?dc ?dk ?db; (case da => k_is); (case dl => k_is); (case dc => k_is); (case dk => k_is); (case db => exact fun _ _ _ _ _ _ us hl => match us, hl with | [_, _], _ => rfl)))
    (case D_p_highest => (refine' Py.def_mk KX G ?da ?dl ?dc ?dk ?db; (case da => k_is); (case dl => k_is); (case dc => k_is); (case dk => k_is); (case db => exact fun _ _ _ _ _ _ us hl => match us, hl with | [_, _, _], _ => rfl)))
    (case D_p_height => (refine' Py.def_mk KX G ?da ?dl ?dc ?dk ?db; (case da => k_is); (case dl => k_is); (case dc => k_is); (case dk => k_is); (case db => exact fun _ _ _ _ _ _ us hl => match us, hl with | [_, _], _ => rfl)))
    (case aL => first | k_is | rfl | decide +kernel)
    (case lL => first | k_is | rfl | decide +kernel)
    (case cL => first | k_is | rfl | decide +kernel)
    (case kL => first | k_is | rfl | decide +kernel)
#print axioms PySem.Challenge.cw_stackproof_k13_counting_holds

