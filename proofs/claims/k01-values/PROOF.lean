import PyProof.Rows.All
import Wide.All
import OpenK.AllK
import Wide.FinOn
import HandS.Head0
import HandS.Head1
import HandS.Head2
import HandS.HeadEnd
import HandS.ForMost
import HandS.Exc
import HandS.ExcOwn
import HandS.ExcCtx
import HandS.Lambda
import HandS.Wide
import HandS.TupMul
import HandS.TupLe
import HandS.TupAny
import HandS.Dict
import HandS.IsInst
import HandS.RaiseMore
import KE.IntTextLaws
import HandS.Comp
import HandS.Flow
import HandS.Text
import HandS.Iter
import HandS.Zip
import KE.GoesEnum
import HandS.Style
import HandS.Small
import PyProof.ZipIter
import PyProof.TupleIter
import PyProof.Seq
import HandS.Hot
import HandS.HotCalls
import HandS.ExcIs
import HandS.ExcField
import HandS.Defaults
import HandS.HeadHook1
import HandS.HeadHook2
import PyProof.ExcBaseAll.ValueError
import HandS.HeadHook4
import HandS.HeadWalk
import PySem.Challenge.RW_schemasteps_k01_values_and_conversions
set_option Elab.async false
-- Z0
set_option Elab.async false
set_option linter.all false
/-! Layer Z, part 0: pure values, a small heap of mutable things, the erased syntax and its evaluator. -/
namespace Z

/-- values: frozen lists, dicts and instances are values; what may still change stands in the small heap (ref) -/
inductive PV where
  | non | bl (b : Bool) | int (i : Int) | str (x : List Nat)
  | tup (xs : List PV) | lst (xs : List PV) | dct (ks vs : List PV) | set (xs : List PV)
  | ref (i : Nat) | obj (c : Nat) (ns : List Nat) (vs : List PV)
  /-- the script: a list that is only read -/
  | scr (xs : List PV)
  deriving Inhabited, Repr
/-- a mutable thing -/
inductive MO where
  | lst (xs : List PV) | dct (ks vs : List PV) | ins (c : Nat) (ns : List Nat) (vs : List PV)
  deriving Inhabited, Repr
abbrev AH := List MO
abbrev Env := List (Option PV)

mutual
def decPV : (x y : PV) → Decidable (x = y)
  | .non, .non => .isTrue rfl
  | .bl a, .bl b => if h : a = b then .isTrue (by rw [h]) else .isFalse fun e => h (PV.bl.inj e)
  | .int a, .int b => if h : a = b then .isTrue (by rw [h]) else .isFalse fun e => h (PV.int.inj e)
  | .str a, .str b => if h : a = b then .isTrue (by rw [h]) else .isFalse fun e => h (PV.str.inj e)
  | .tup a, .tup b => match decPVs a b with
    | .isTrue h => .isTrue (by rw [h])
    | .isFalse h => .isFalse fun e => h (PV.tup.inj e)
  | .lst a, .lst b => match decPVs a b with
    | .isTrue h => .isTrue (by rw [h])
    | .isFalse h => .isFalse fun e => h (PV.lst.inj e)
  | .set a, .set b => match decPVs a b with
    | .isTrue h => .isTrue (by rw [h])
    | .isFalse h => .isFalse fun e => h (PV.set.inj e)
  | .scr a, .scr b => match decPVs a b with
    | .isTrue h => .isTrue (by rw [h])
    | .isFalse h => .isFalse fun e => h (PV.scr.inj e)
  | .dct a c, .dct b d => match decPVs a b, decPVs c d with
    | .isTrue h, .isTrue h' => .isTrue (by rw [h, h'])
    | .isFalse h, _ => .isFalse fun e => h (PV.dct.inj e).1
    | _, .isFalse h => .isFalse fun e => h (PV.dct.inj e).2
  | .ref a, .ref b => if h : a = b then .isTrue (by rw [h]) else .isFalse fun e => h (PV.ref.inj e)
  | .obj a n c, .obj b m d => if h : a = b then (if h2 : n = m then match decPVs c d with
    | .isTrue h' => .isTrue (by rw [h, h2, h'])
    | .isFalse h' => .isFalse fun e => h' (PV.obj.inj e).2.2 else .isFalse fun e => h2 (PV.obj.inj e).2.1) else .isFalse fun e => h (PV.obj.inj e).1
  | .non, .bl _ | .non, .int _ | .non, .str _ | .non, .tup _ | .non, .lst _ | .non, .dct _ _ | .non, .set _ | .non, .ref _ | .non, .obj _ _ _ | .non, .scr _ => .isFalse (fun e => nomatch e)
  | .bl _, .non | .bl _, .int _ | .bl _, .str _ | .bl _, .tup _ | .bl _, .lst _ | .bl _, .dct _ _ | .bl _, .set _ | .bl _, .ref _ | .bl _, .obj _ _ _ | .bl _, .scr _ => .isFalse (fun e => nomatch e)
  | .int _, .non | .int _, .bl _ | .int _, .str _ | .int _, .tup _ | .int _, .lst _ | .int _, .dct _ _ | .int _, .set _ | .int _, .ref _ | .int _, .obj _ _ _ | .int _, .scr _ => .isFalse (fun e => nomatch e)
  | .str _, .non | .str _, .bl _ | .str _, .int _ | .str _, .tup _ | .str _, .lst _ | .str _, .dct _ _ | .str _, .set _ | .str _, .ref _ | .str _, .obj _ _ _ | .str _, .scr _ => .isFalse (fun e => nomatch e)
  | .tup _, .non | .tup _, .bl _ | .tup _, .int _ | .tup _, .str _ | .tup _, .lst _ | .tup _, .dct _ _ | .tup _, .set _ | .tup _, .ref _ | .tup _, .obj _ _ _ | .tup _, .scr _ => .isFalse (fun e => nomatch e)
  | .lst _, .non | .lst _, .bl _ | .lst _, .int _ | .lst _, .str _ | .lst _, .tup _ | .lst _, .dct _ _ | .lst _, .set _ | .lst _, .ref _ | .lst _, .obj _ _ _ | .lst _, .scr _ => .isFalse (fun e => nomatch e)
  | .dct _ _, .non | .dct _ _, .bl _ | .dct _ _, .int _ | .dct _ _, .str _ | .dct _ _, .tup _ | .dct _ _, .lst _ | .dct _ _, .set _ | .dct _ _, .ref _ | .dct _ _, .obj _ _ _ | .dct _ _, .scr _ => .isFalse (fun e => nomatch e)
  | .set _, .non | .set _, .bl _ | .set _, .int _ | .set _, .str _ | .set _, .tup _ | .set _, .lst _ | .set _, .dct _ _ | .set _, .ref _ | .set _, .obj _ _ _ | .set _, .scr _ => .isFalse (fun e => nomatch e)
  | .ref _, .non | .ref _, .bl _ | .ref _, .int _ | .ref _, .str _ | .ref _, .tup _ | .ref _, .lst _ | .ref _, .dct _ _ | .ref _, .set _ | .ref _, .obj _ _ _ | .ref _, .scr _ => .isFalse (fun e => nomatch e)
  | .obj _ _ _, .non | .obj _ _ _, .bl _ | .obj _ _ _, .int _ | .obj _ _ _, .str _ | .obj _ _ _, .tup _ | .obj _ _ _, .lst _ | .obj _ _ _, .dct _ _ | .obj _ _ _, .set _ | .obj _ _ _, .ref _ | .obj _ _ _, .scr _ => .isFalse (fun e => nomatch e)
  | .scr _, .non | .scr _, .bl _ | .scr _, .int _ | .scr _, .str _ | .scr _, .tup _ | .scr _, .lst _ | .scr _, .dct _ _ | .scr _, .set _ | .scr _, .ref _ | .scr _, .obj _ _ _ => .isFalse (fun e => nomatch e)
def decPVs : (x y : List PV) → Decidable (x = y)
  | [], [] => .isTrue rfl
  | a :: r, b :: t => match decPV a b, decPVs r t with
    | .isTrue h, .isTrue h' => .isTrue (by rw [h, h'])
    | .isFalse h, _ => .isFalse fun e => h (List.cons.inj e).1
    | _, .isFalse h => .isFalse fun e => h (List.cons.inj e).2
  | [], _ :: _ | _ :: _, [] => .isFalse (fun e => nomatch e)
end
instance : DecidableEq PV := decPV
def decMO : (x y : MO) → Decidable (x = y)
  | .lst a, .lst b => if h : a = b then .isTrue (by rw [h]) else .isFalse fun e => h (MO.lst.inj e)
  | .dct a c, .dct b d => if h : a = b ∧ c = d then .isTrue (by rw [h.1, h.2]) else .isFalse fun e => h (MO.dct.inj e)
  | .ins a c n, .ins b d m => if h : a = b ∧ c = d ∧ n = m then .isTrue (by rw [h.1, h.2.1, h.2.2]) else .isFalse fun e => h (MO.ins.inj e)
  | .lst _, .dct _ _ | .lst _, .ins _ _ _ | .dct _ _, .lst _ | .dct _ _, .ins _ _ _ | .ins _ _ _, .lst _ | .ins _ _ _, .dct _ _ => .isFalse (fun e => nomatch e)
instance : DecidableEq MO := decMO

/-! ### how deep, whether data, whether equal as Python compares -/
mutual
def PV.depth : PV → Nat
  | .tup xs => depths xs + 1
  | .lst xs => depths xs + 1
  | .dct _ vs => depths vs + 1
  | .obj _ _ vs => depths vs + 1
  | _ => 0
def depths : List PV → Nat
  | [] => 0
  | x :: r => max x.depth (depths r)
end
mutual
/-- None, bools, ints, texts, lists and tuples of such -/
def PV.isD : PV → Bool
  | .non | .bl _ | .int _ | .str _ => true
  | .tup xs => isDs xs
  | .lst xs => isDs xs
  | _ => false
def isDs : List PV → Bool
  | [] => true
  | x :: r => x.isD && isDs r
end
def b2i (b : Bool) : Int := if b then 1 else 0
mutual
def eqP : PV → PV → Bool
  | .non, .non => true
  | .bl a, .bl b => a == b
  | .bl a, .int j => b2i a == j
  | .int i, .bl b => i == b2i b
  | .int i, .int j => i == j
  | .str x, .str y => decide (x = y)
  | .tup xs, .tup ys => eqPs xs ys
  | .lst xs, .lst ys => eqPs xs ys
  | _, _ => false
def eqPs : List PV → List PV → Bool
  | [], [] => true
  | x :: xs, y :: ys => eqP x y && eqPs xs ys
  | _, _ => false
end
mutual
/-- no reference from n on -/
def PV.under (n : Nat) : PV → Bool
  | .tup xs => unders n xs
  | .lst xs => unders n xs
  | .dct ks vs => unders n ks && unders n vs
  | .set xs => unders n xs
  | .ref i => decide (i < n)
  | .obj _ _ vs => unders n vs
  | .scr xs => unders n xs
  | _ => true
def unders (n : Nat) : List PV → Bool
  | [] => true
  | x :: r => x.under n && unders n r
end
def MO.under (n : Nat) : MO → Bool
  | .lst xs => unders n xs
  | .dct ks vs => unders n ks && unders n vs
  | .ins _ _ vs => unders n vs

/-! ### results -/
/-- an exception: its class, the number that it carries -/
structure Ex where
  c : Nat
  n : Option Int := none
  deriving DecidableEq, Repr, Inhabited
inductive Res (α : Type) where
  | ok (a : α) (h : AH)
  | exc (x : Ex) (h : AH)
  | stuck
  deriving Inhabited
def Res.bnd {α β : Type} : Res α → (α → AH → Res β) → Res β
  | .ok a h, f => f a h
  | .exc x h, _ => .exc x h
  | .stuck, _ => .stuck
@[simp] theorem Res.bnd_ok {α β : Type} (a : α) (h : AH) (f : α → AH → Res β) : (Res.ok a h).bnd f = f a h := rfl
@[simp] theorem Res.bnd_exc {α β : Type} (x : Ex) (h : AH) (f : α → AH → Res β) : (Res.exc x h).bnd f = .exc x h := rfl
@[simp] theorem Res.bnd_stuck {α β : Type} (f : α → AH → Res β) : (Res.stuck).bnd f = .stuck := rfl
/-- no exception leaves -/
def Res.nox {α : Type} : Res α → Res α
  | .ok a h => .ok a h
  | _ => .stuck
@[simp] theorem Res.nox_ok {α : Type} (a : α) (h : AH) : (Res.ok a h).nox = .ok a h := rfl
@[simp] theorem Res.nox_stuck {α : Type} : (Res.stuck : Res α).nox = .stuck := rfl
def ofO {α : Type} (h : AH) : Option α → Res α
  | some a => .ok a h
  | none => .stuck
@[simp] theorem ofO_some {α : Type} (h : AH) (a : α) : ofO h (some a) = .ok a h := rfl
@[simp] theorem ofO_none {α : Type} (h : AH) : ofO h (none : Option α) = .stuck := rfl
/-- under a condition, else stuck -/
def grd {α : Type} (c : Bool) (r : Res α) : Res α := match c with
  | true => r
  | false => .stuck
@[simp] theorem grd_true {α : Type} (r : Res α) : grd true r = r := rfl
@[simp] theorem grd_false {α : Type} (r : Res α) : grd false r = .stuck := rfl

/-! ### syntax -/
inductive BOp where
  | add | sub | mul | fdiv | mod | pow
  deriving DecidableEq, Repr, Inhabited
inductive COp where
  | eq | ne | lt | le | gt | ge | is | isn | isin | nin
  deriving DecidableEq, Repr, Inhabited
/-- built-in functions that give no new mutable thing -/
inductive BI where
  | len | int | str | tuple | all | any | min | max | sum | repr
  deriving DecidableEq, Repr, Inhabited
/-- built-in classes that isinstance is asked for -/
inductive Ty where
  | int | bool | str | tup | lst | cls (c : Nat)
  deriving DecidableEq, Repr, Inhabited
/-- targets -/
inductive T where
  | name (i : Nat) | tup (ts : List T)
  deriving Repr, Inhabited
mutual
inductive E where
  | var (i : Nat) | cst (v : PV) | glob (g : Nat)
  | tup (es : List E) | frz (a : A) | mut (a : A)
  | bin (o : BOp) (a b : E) | neg (a : E) | not (a : E)
  | cmp (o : COp) (a b : E) | chain (o p : COp) (a b c : E)
  | and (es : List E) | or (es : List E) | ife (c a b : E)
  | call (f : Nat) (es : List E) | bi (b : BI) (es : List E) | isi (a : E) (t : Ty)
  | meth (o : E) (m : Nat) (es : List E) | im (o : E) (m : Nat) (es : List E) | attr (o : E) (x : Nat)
  | sub (o i : E) | slc (o : E) (lo hi : List E)
  | new (c : Nat) (es : List E)
  | lam (body : E) | lamR (body : E) (w : E)
/-- what makes a list, a dict, a set: new at each time -/
inductive A where
  | disp (es : List E) | cat (a b : E) | rep (a n : E)
  | comp (own : List Nat) (elt : E) (t : T) (it : I) (ifs : List E)
  | comp2 (own : List Nat) (elt : E) (t : T) (it : I) (t2 : T) (it2 : I) (ifs : List E)
  | listof (a : E) | sorted (a : E) | sortk (a : E) | slice (a : E) (lo hi : List E) | range (a b : E)
  | dict0 | dictp (a : E) | dictc (a : E) | ddisp (ks : List PV) (vs : List E) | setof (a : E) | zip (es : List E)
  | split (a b : E)
/-- what a loop walks -/
inductive I where
  | val (e : E) | rng (a b : E) | enum (e : E) | zip (es : List E) | items (e : E)
end
instance : Inhabited E := ⟨.var 0⟩
inductive S where
  | asg (i : Nat) (e : E) | asgT (t : T) (e : E) | asgI (o i : E) (e : E) | asgA (o : E) (x : Nat) (e : E)
  | aug (i : Nat) (o : BOp) (e : E) | expr (e : E) | ret (e : E)
  | ife (c : E) (a b : List S) | whl (c : E) (b : List S) | for (t : T) (it : I) (b : List S)
  | raise (c : Nat) | raiseN (c : Nat) (e : E) | pass
  deriving Inhabited
/-- a def -/
structure Def where
  params : Nat
  slots : Nat
  body : List S
  /-- a mutable thing made within may leave (no freezing, no cut) -/
  keep : Bool := false
  deriving Inhabited
end Z
-- Z1
set_option Elab.async false
set_option linter.all false
/-! Layer Z, part 1: the evaluator. -/
namespace Z

/-- the largest length (the model's line) -/
def zLine : Nat := 16777216
/-- what a name, a def, a class stands for -/
structure Ctx where
  fn : Nat → List PV → AH → Res PV
  glob : Nat → Option PV
  /-- the def of a class's method (its __init__: name 0) -/
  meth : Nat → Nat → Option Nat
  /-- turns of a while -/
  wf : Nat
  /-- what the law calls an exception's classes -/
  word : Nat → Option (List Nat)

/-! ### the heap -/
/-- the items of a list or tuple, wherever it stands -/
def seqOf (h : AH) : PV → Option (List PV)
  | .tup xs => some xs
  | .lst xs => some xs
  | .scr xs => some xs
  | .ref i => match h[i]? with
    | some (.lst xs) => some xs
    | _ => none
  | _ => none
/-- a frozen reading of a value at the top: a list's reference becomes the list -/
def look (h : AH) : PV → PV
  | .ref i => match h[i]? with
    | some (.lst xs) => .lst xs
    | some (.dct ks vs) => .dct ks vs
    | _ => .ref i
  | v => v
def dctOf (h : AH) : PV → Option (List PV × List PV)
  | .dct ks vs => some (ks, vs)
  | .ref i => match h[i]? with
    | some (.dct ks vs) => some (ks, vs)
    | _ => none
  | _ => none
def freezeMO : MO → PV
  | .lst xs => .lst xs
  | .dct ks vs => .dct ks vs
  | .ins c ns vs => .obj c ns vs
mutual
/-- values that name things from n on become frozen -/
def frz (h : AH) (n : Nat) : Nat → PV → Option PV
  | 0, _ => none
  | k + 1, v => match v with
    | .ref i => if i < n then some (.ref i) else match h[i]? with
      | some (.lst xs) => (frzs h n k xs).map .lst
      | some (.dct ks vs) => (frzs h n k ks).bind fun a => (frzs h n k vs).map fun b => .dct a b
      | some (.ins c ns vs) => (frzs h n k vs).map fun b => .obj c ns b
      | none => none
    | .tup xs => (frzs h n k xs).map .tup
    | .lst xs => (frzs h n k xs).map .lst
    | .dct ks vs => (frzs h n k ks).bind fun a => (frzs h n k vs).map fun b => .dct a b
    | .obj c ns vs => (frzs h n k vs).map fun b => .obj c ns b
    | .scr xs => if unders n xs = true then some (.scr xs) else none
    | w => some w
def frzs (h : AH) (n : Nat) : Nat → List PV → Option (List PV)
  | 0, _ => none
  | _ + 1, [] => some []
  | k + 1, x :: r => (frz h n k x).bind fun a => (frzs h n (k + 1) r).map fun b => a :: b
end

/-! ### operators -/
def tru (h : AH) : PV → Option Bool
  | .non => some false
  | .bl b => some b
  | .int i => some (i != 0)
  | .str x => some !x.isEmpty
  | .tup xs => some !xs.isEmpty
  | .lst xs => some !xs.isEmpty
  | .dct ks _ => some !ks.isEmpty
  | .ref i => match h[i]? with
    | some (.lst xs) => some !xs.isEmpty
    | some (.dct ks _) => some !ks.isEmpty
    | _ => none
  | _ => none
def small (i : Int) : Bool := decide (i.natAbs < 2 ^ 64)
def mulOk (i j : Int) : Bool := small i || small j || (decide (i.natAbs < 2 ^ 4000) && decide (j.natAbs < 2 ^ 4000))
def repL {α : Type} (xs : List α) : Nat → List α
  | 0 => []
  | n + 1 => xs ++ repL xs n
def ocond {α : Type} (c : Bool) (a : α) : Option α := match c with
  | true => some a
  | false => none
@[simp] theorem ocond_true {α : Type} (a : α) : ocond true a = some a := rfl
@[simp] theorem ocond_false {α : Type} (a : α) : ocond false a = none := rfl
def catV (h : AH) (x y : PV) : Option MO := match look h x with
  | .lst a => match look h y with
    | .lst b => ocond (decide (a.length + b.length ≤ zLine)) (.lst (a ++ b))
    | _ => none
  | _ => none
def repV (h : AH) (x y : PV) : Option MO := match look h x with
  | .lst a => match y with
    | .int j => ocond (decide (0 ≤ j) && decide (j < 1000000) && decide (a.length < 10)) (.lst (repL a j.toNat))
    | _ => none
  | _ => none
/-- a op b; lists that come of it are frozen -/
def addV (h : AH) (x y : PV) : Option PV := match x with
  | .int i => match y with
    | .int j => some (.int (i + j))
    | _ => none
  | .str a => match y with
    | .str b => ocond (decide (a.length + b.length ≤ zLine)) (.str (a ++ b))
    | _ => none
  | .tup a => match y with
    | .tup b => ocond (decide (a.length + b.length ≤ zLine)) (.tup (a ++ b))
    | _ => none
  | x => (catV h x y).map freezeMO
def mulV (h : AH) (x y : PV) : Option PV := match y with
  | .int j => match x with
    | .int i => ocond (mulOk i j) (.int (i * j))
    | .str a => ocond (decide (0 ≤ j) && decide (j < 1000) && decide (a.length < 1000)) (.str (repL a j.toNat))
    | .tup a => ocond (decide (2 ≤ j) && decide (j ≤ 1000) && decide (a.length ≤ 1000) && !a.isEmpty) (.tup (repL a j.toNat))
    | x => (repV h x (.int j)).map freezeMO
  | _ => none
def intV (f : Int → Int → Option PV) (x y : PV) : Option PV := match x with
  | .int i => match y with
    | .int j => f i j
    | _ => none
  | _ => none
def binV (h : AH) (o : BOp) (x y : PV) : Option PV := match o with
  | .add => addV h x y
  | .mul => mulV h x y
  | .sub => intV (fun i j => some (.int (i - j))) x y
  | .fdiv => intV (fun i j => ocond (decide (0 < j) && decide (j < 1073741824)) (.int (i / j))) x y
  | .mod => intV (fun i j => ocond (decide (0 < j)) (.int (i % j))) x y
  | .pow => intV (fun i j => ocond (decide (0 ≤ j) && decide (j ≤ 1000000) && small i) (.int (i ^ j.toNat))) x y
/-- what two comparable data say -/
def eqV (h : AH) (x y : PV) : Option Bool :=
  ocond ((look h x).isD && (look h y).isD && decide (min (look h x).depth (look h y).depth ≤ 64)) (eqP (look h x) (look h y))
def ltV : PV → PV → Option Bool
  | .int i, .int j => some (decide (i < j))
  | .str a, .str b => some (decide (a < b))
  | _, _ => none
def leV : PV → PV → Option Bool
  | .int i, .int j => some (decide (i ≤ j))
  | .str a, .str b => some !(decide (b < a))
  | _, _ => none
def isV (x : PV) : PV → Option Bool
  | .non => some (decide (x = .non))
  | .bl b => match x with
    | .bl a => some (decide (a = b))
    | _ => none
  | _ => none
/-- what may be a key of a dict, a member of a set -/
def keyOk : PV → Bool
  | .int _ | .str _ => true
  | _ => false
def inV (h : AH) (x y : PV) : Option Bool := match y with
  | .str b => match x with
    | .str [c] => some (b.contains c)
    | _ => none
  | .set ys => ocond (keyOk x) (ys.any fun z => eqP z x)
  | _ => match dctOf h y with
    | some (ks, _) => ocond (keyOk x) (ks.any fun z => eqP z x)
    | none => match seqOf h y with
      | some ys => ocond ((look h x).isD && isDs ys && decide (min (look h x).depth (depths ys) ≤ 60)) (ys.any fun z => eqP z (look h x))
      | none => none
def cmpV (h : AH) (o : COp) (x y : PV) : Option Bool := match o with
  | .eq => eqV h x y
  | .ne => (eqV h x y).map (!·)
  | .lt => ltV x y
  | .le => leV x y
  | .gt => ltV y x
  | .ge => leV y x
  | .is => isV x y
  | .isn => (isV x y).map (!·)
  | .isin => inV h x y
  | .nin => (inV h x y).map (!·)

/-! ### subscripts -/
/-- an index, from the end if it is negative -/
def ixOf (n : Nat) (i : Int) : Option Nat := if 0 ≤ i then (if i < n then some i.toNat else none) else if -(n : Int) ≤ i then some (i + n).toNat else none
def atL {α : Type} (xs : List α) (i : Int) : Option α := (ixOf xs.length i).bind fun j => xs[j]?
/-- a bound of a slice, as a place among n (d where it is left out) -/
def sIx (n d : Nat) : Option Int → Nat
  | none => d
  | some v => if v < 0 then (v + (n : Int)).toNat else min v.toNat n
def cutL {α : Type} (xs : List α) (lo hi : Option Int) : List α := (xs.drop (sIx xs.length 0 lo)).take (sIx xs.length xs.length hi - sIx xs.length 0 lo)
/-- the value under a key -/
def getK (x : PV) : List PV → List PV → Option PV
  | k :: ks, v :: vs => if eqP k x = true then some v else getK x ks vs
  | _, _ => none
def putK (x v : PV) : List PV → List PV → List PV × List PV
  | k :: ks, w :: ws => if eqP k x = true then (k :: ks, v :: ws) else (k :: (putK x v ks ws).1, w :: (putK x v ks ws).2)
  | _, _ => ([x], [v])
def delK (x : PV) : List PV → List PV → List PV × List PV
  | k :: ks, w :: ws => if eqP k x = true then (ks, ws) else (k :: (delK x ks ws).1, w :: (delK x ks ws).2)
  | _, _ => ([], [])
def seqIx (o : Option (List PV)) (i : PV) : Option PV := match i with
  | .int j => o.bind fun xs => atL xs j
  | _ => none
def subN (h : AH) (o i : PV) : Option PV := match dctOf h o with
  | some (ks, vs) => (ocond (keyOk i) ()).bind fun _ => getK i ks vs
  | none => seqIx (seqOf h o) i
def subV (h : AH) (o i : PV) : Option PV := match o with
  | .str x => match i with
    | .int j => (atL x j).map fun c => .str [c]
    | _ => none
  | o => subN h o i
def slcM (h : AH) (o : PV) (lo hi : Option Int) : Option MO := match look h o with
  | .lst xs => some (.lst (cutL xs lo hi))
  | _ => none
def slcV (h : AH) (o : PV) (lo hi : Option Int) : Option PV := match o with
  | .str x => some (.str (cutL x lo hi))
  | .tup xs => some (.tup (cutL xs lo hi))
  | o => (slcM h o lo hi).map freezeMO

/-! ### numbers as texts -/
def digs (n : Nat) : List Nat := (Nat.toDigits 10 n).map Char.toNat
def strI (i : Int) : List Nat := if i < 0 then 45 :: digs i.natAbs else digs i.natAbs
def isDig (c : Nat) : Bool := decide (48 ≤ c) && decide (c ≤ 57)
def natOf (x : List Nat) : Nat := x.foldl (fun n c => n * 10 + (c - 48)) 0
/-- the number that a text of figures writes, perhaps with a minus ahead -/
def intOf : List Nat → Option Int
  | 45 :: r => ocond (!r.isEmpty && r.all isDig && decide (r.length ≤ 600)) (-(natOf r : Int))
  | x => ocond (!x.isEmpty && x.all isDig && decide (x.length ≤ 600)) (natOf x : Int)

/-! ### built-in functions -/
def allB : List PV → Option (List Bool)
  | [] => some []
  | .bl b :: r => (allB r).map (b :: ·)
  | _ :: _ => none
def allI : List PV → Option (List Int)
  | [] => some []
  | .int b :: r => (allI r).map (b :: ·)
  | _ :: _ => none
def allS : List PV → Option (List (List Nat))
  | [] => some []
  | .str b :: r => (allS r).map (b :: ·)
  | _ :: _ => none
def strV : PV → Option PV
  | .int i => ocond (decide (i.natAbs < 2 ^ 1900)) (.str (strI i))
  | .str x => some (.str x)
  | .bl true => some (.str [84, 114, 117, 101])
  | .bl false => some (.str [70, 97, 108, 115, 101])
  | .non => some (.str [78, 111, 110, 101])
  | _ => none
def lenV (h : AH) : PV → Option Nat
  | .str x => some x.length
  | .set xs => some xs.length
  | v => match dctOf h v with
    | some (ks, _) => some ks.length
    | none => (seqOf h v).map (·.length)
def on1 (f : PV → Option PV) : List PV → Option PV
  | [x] => f x
  | _ => none
def on2 (f : PV → PV → Option PV) : List PV → Option PV
  | [x, y] => f x y
  | _ => none
def intC : PV → Option PV
  | .int i => some (.int i)
  | .bl k => some (.int (b2i k))
  | .str x => (intOf x).map .int
  | _ => none
/-- the truth values of a list -/
def lstOf (h : AH) (x : PV) : Option (List Bool) := match look h x with
  | .lst ys => allB ys
  | _ => none
def biV (h : AH) (b : BI) (vs : List PV) : Option PV := match b with
  | .len => on1 (fun x => (lenV h x).map fun (n : Nat) => PV.int (n : Int)) vs
  | .int => on1 intC vs
  | .str => on1 strV vs
  | .tuple => on1 (fun x => (seqOf h x).map .tup) vs
  | .all => on1 (fun x => (lstOf h x).map fun bs => .bl (bs.all id)) vs
  | .any => on1 (fun x => (lstOf h x).map fun bs => .bl (bs.any id)) vs
  | .min => on2 (fun x y => intV (fun i j => some (.int (if j < i then j else i))) x y) vs
  | .max => on2 (fun x y => intV (fun i j => some (.int (if i < j then j else i))) x y) vs
  | .sum => none
  | .repr => none
inductive TN where
  | non | bl | int | str | tup | lst
  deriving DecidableEq, Repr, Inhabited
def tnOf (h : AH) : PV → Option TN
  | .non => some .non
  | .bl _ => some .bl
  | .int _ => some .int
  | .str _ => some .str
  | .tup _ => some .tup
  | .lst _ => some .lst
  | .scr _ => some .lst
  | .ref i => match h[i]? with
    | some (.lst _) => some .lst
    | _ => none
  | _ => none
def TN.is : TN → Ty → Option Bool
  | n, .int => some (match n with
    | .int => true
    | .bl => true
    | _ => false)
  | n, .bool => some (match n with
    | .bl => true
    | _ => false)
  | n, .str => some (match n with
    | .str => true
    | _ => false)
  | n, .tup => some (match n with
    | .tup => true
    | _ => false)
  | n, .lst => some (match n with
    | .lst => true
    | _ => false)
  | _, .cls _ => none
def isiV (h : AH) (x : PV) (t : Ty) : Option Bool := (tnOf h x).bind fun n => n.is t

/-! ### sorting: by a stable insertion of what is comparable -/
def insBy {α : Type} (lt : α → α → Bool) (x : α) : List α → List α
  | [] => [x]
  | y :: r => if lt x y then x :: y :: r else y :: insBy lt x r
def sortBy {α : Type} (lt : α → α → Bool) : List α → List α → List α
  | acc, [] => acc
  | acc, x :: r => sortBy lt (insBy lt x acc) r

/-! ### loops -/
def grdOk (g : Option (Nat × MO)) (h : AH) : Bool := match g with
  | none => true
  | some (i, o) => decide (h[i]? = some o)
inductive Out where
  | next (ρ : Env) | ret (v : PV)
  deriving Inhabited
def forL (g : Option (Nat × MO)) (f : PV → Env → AH → Res Out) : List PV → Env → AH → Res Out
  | [], ρ, h => grd (grdOk g h) (.ok (.next ρ) h)
  | x :: r, ρ, h => grd (grdOk g h) ((f x ρ h).bnd fun o h' => match o with
    | .next ρ' => forL g f r ρ' h'
    | .ret v => .ok (.ret v) h')
/-- a comprehension's turns: some value, or none where a test said no -/
def compL (g : Option (Nat × MO)) (f : PV → AH → Res (Option PV)) : List PV → AH → Res (List PV)
  | [], h => grd (grdOk g h) (.ok [] h)
  | x :: r, h => grd (grdOk g h) ((f x h).nox.bnd fun o h1 => (compL g f r h1).bnd fun vs h2 => .ok (match o with
    | some v => v :: vs
    | none => vs) h2)
/-- two fors: the lists one after another -/
def compL2 (g : Option (Nat × MO)) (f : PV → AH → Res (List PV)) : List PV → AH → Res (List PV)
  | [], h => grd (grdOk g h) (.ok [] h)
  | x :: r, h => grd (grdOk g h) ((f x h).nox.bnd fun us h1 => (compL2 g f r h1).bnd fun vs h2 => .ok (us ++ vs) h2)
def whlL (c : Env → AH → Res Bool) (b : Env → AH → Res Out) : Nat → Env → AH → Res Out
  | 0, _, _ => .stuck
  | n + 1, ρ, h => (c ρ h).bnd fun k h1 => match k with
    | true => (b ρ h1).bnd fun o h2 => match o with
      | .next ρ' => whlL c b n ρ' h2
      | .ret v => .ok (.ret v) h2
    | false => .ok (.next ρ) h1
mutual
/-- a value is stored -/
def setT (h : AH) : T → PV → Env → Option Env
  | .name i, v, ρ => ocond (decide (i < ρ.length)) (ρ.set i (some v))
  | .tup ts, v, ρ => match seqOf h v with
    | some xs => setTs h ts xs ρ
    | none => none
def setTs (h : AH) : List T → List PV → Env → Option Env
  | [], [], ρ => some ρ
  | t :: ts, x :: xs, ρ => (setT h t x ρ).bind fun ρ' => setTs h ts xs ρ'
  | _, _, _ => none
end
mutual
/-- where a target stores -/
def T.slots : T → List Nat
  | .name i => [i]
  | .tup ts => slotsL ts
def slotsL : List T → List Nat
  | [] => []
  | t :: ts => t.slots ++ slotsL ts
end
def wipe (ρ : Env) : List Nat → Env
  | [] => ρ
  | i :: r => (wipe ρ r).set i none
def itSeq (h : AH) (v : PV) : Option (List PV × Option (Nat × MO)) := match v with
  | .tup xs => some (xs, none)
  | .lst xs => some (xs, none)
  | .str x => some (x.map fun c => .str [c], none)
  | .ref i => match h[i]? with
    | some (.lst xs) => some (xs, some (i, .lst xs))
    | _ => none
  | _ => none
/-- what enumerate walks: lists and tuples -/
def frzSeq : PV → Option (List PV)
  | .tup xs => some xs
  | .lst xs => some xs
  | _ => none
def enumFrom (k : Int) : List PV → List PV
  | [] => []
  | x :: r => .tup [.int k, x] :: enumFrom (k + 1) r
def enSeq (h : AH) (v : PV) : Option (List PV × Option (Nat × MO)) := match v with
  | .tup xs => some (enumFrom 0 xs, none)
  | .lst xs => some (enumFrom 0 xs, none)
  | .ref i => match h[i]? with
    | some (.lst xs) => some (enumFrom 0 xs, some (i, .lst xs))
    | _ => none
  | _ => none
def zip2 : List PV → List PV → List PV
  | x :: r, y :: t => .tup [x, y] :: zip2 r t
  | _, _ => []
/-- two sequences alike in kind, paired -/
def zipSeq : PV → PV → Option (List PV)
  | .lst xs, .lst ys => some (zip2 xs ys)
  | .tup xs, .tup ys => some (zip2 xs ys)
  | _, _ => none
def zip3 : List PV → List PV → List PV → List PV
  | x :: r, y :: t, z :: u => .tup [x, y, z] :: zip3 r t u
  | _, _, _ => []
def rngL (a : Int) : Nat → List PV
  | 0 => []
  | n + 1 => .int a :: rngL (a + 1) n

/-! ### methods of built-in things; 1 append, 2 extend, 3 pop, 4 remove, 5 count, 6 index, 7 get, 8 join, 9 upper -/
def joinL (s : List Nat) : List (List Nat) → List Nat
  | [] => []
  | [x] => x
  | x :: r => x ++ s ++ joinL s r
def mutL (h : AH) (o : PV) (f : Nat → List PV → Res PV) : Res PV := match o with
  | .ref i => match h[i]? with
    | some (.lst xs) => f i xs
    | _ => .stuck
  | _ => .stuck
def mutD (h : AH) (o : PV) (f : Nat → List PV → List PV → Res PV) : Res PV := match o with
  | .ref i => match h[i]? with
    | some (.dct ks ws) => f i ks ws
    | _ => .stuck
  | _ => .stuck
def zero (vs : List PV) (r : Res PV) : Res PV := match vs with
  | [] => r
  | _ => .stuck
def one (vs : List PV) (f : PV → Res PV) : Res PV := match vs with
  | [x] => f x
  | _ => .stuck
def two (vs : List PV) (f : PV → PV → Res PV) : Res PV := match vs with
  | [x, y] => f x y
  | _ => .stuck
def onO {α : Type} (o : Option α) (f : α → Res PV) : Res PV := match o with
  | some x => f x
  | none => .stuck
def asL (v : PV) : Option (List PV) := match v with
  | .lst xs => some xs
  | _ => none
def asS (v : PV) : Option (List Nat) := match v with
  | .str xs => some xs
  | _ => none
def methV (h : AH) (o : PV) (m : Nat) (vs : List PV) : Res PV := match m with
  | 1 => mutL h o fun i xs => one vs fun x => grd (decide (xs.length < zLine)) (.ok .non (h.set i (.lst (xs ++ [x]))))
  | 2 => mutL h o fun i xs => one vs fun x => onO (asL (look h x)) fun ys => grd (decide (xs.length + ys.length ≤ zLine)) (.ok .non (h.set i (.lst (xs ++ ys))))
  | 3 => mutL h o fun i xs => zero vs (onO xs.getLast? fun x => .ok x (h.set i (.lst xs.dropLast)))
  | 4 => mutL h o fun i xs => one vs fun x => grd (x.isD && isDs xs && decide (min x.depth (depths xs) ≤ 60) && xs.any fun z => eqP z x) (.ok .non (h.set i (.lst (xs.eraseP fun z => eqP z x))))
  | 7 => two vs fun x d => onO (dctOf h o) fun q => grd (keyOk x) (.ok ((getK x q.1 q.2).getD d) h)
  | 8 => one vs fun x => onO (asS o) fun s => onO ((seqOf h x).bind allS) fun ys => grd (decide ((joinL s ys).length ≤ 1000000) && decide (ys.length * s.length ≤ 1000000)) (.ok (.str (joinL s ys)) h)
  | 10 => mutD h o fun i ks ws => one vs fun x => grd (keyOk x) (onO (getK x ks ws) fun v => .ok v (h.set i (.dct (delK x ks ws).1 (delK x ks ws).2)))
  | _ => .stuck
/-- whether the method's receiver is of the method's type -/
def rcv (h : AH) (o : PV) (m : Nat) : Bool := match o with
  | .ref i => match h[i]? with
    | some (.lst _) => decide (m ≤ 6)
    | some (.dct _ _) => decide (m = 7) || decide (m = 10)
    | _ => false
  | .lst _ => decide (m ≤ 6)
  | .dct _ _ => decide (m = 7)
  | .str _ => decide (m = 8) || decide (m = 9) || decide (m = 11)
  | _ => false
/-- the fields of an instance -/
def fldOf (h : AH) : PV → Option (Nat × List Nat × List PV)
  | .obj c ns vs => some (c, ns, vs)
  | .ref i => match h[i]? with
    | some (.ins c ns vs) => some (c, ns, vs)
    | _ => none
  | _ => none
def getF (x : Nat) : List Nat → List PV → Option PV
  | n :: ns, v :: vs => if n = x then some v else getF x ns vs
  | _, _ => none
def putF (x : Nat) (v : PV) : List Nat → List PV → List Nat × List PV
  | n :: ns, w :: ws => if n = x then (n :: ns, v :: ws) else (n :: (putF x v ns ws).1, w :: (putF x v ns ws).2)
  | _, _ => ([x], [v])
/-- the texts of the law's own words -/
def sValue : List Nat := [118, 97, 108, 117, 101]
def sError : List Nat := [101, 114, 114, 111, 114]
def sBase : List Nat := [32, 98, 97, 115, 101]
def numV : Option Int → PV
  | some n => .int n
  | none => .non
end Z
-- Z2
set_option Elab.async false
set_option linter.all false
/-! Layer Z, part 2: expressions, statements, defs. -/
namespace Z
/-- what _law_outcome makes of a call -/
def outc (C : Ctx) : Res PV → Res PV
  | .ok v h => .ok (.tup [.str sValue, v]) h
  | .exc x h => match C.word x.c with
    | some u => match x.n with
      | none => .ok (.tup [.str sError, .str u, .non]) h
      | some _ => .stuck
    | none => .stuck
  | .stuck => .stuck
mutual
def evE (C : Ctx) : E → Env → AH → Res PV
  | .var i, ρ, h => match ρ[i]? with
    | some (some v) => .ok v h
    | _ => .stuck
  | .cst v, _, h => .ok v h
  | .glob g, _, h => ofO h (C.glob g)
  | .tup es, ρ, h => (evEs C es ρ h).bnd fun vs h1 => .ok (.tup vs) h1
  | .frz a, ρ, h => (evA C a ρ h).bnd fun m h1 => .ok (freezeMO m) h1
  | .mut a, ρ, h => (evA C a ρ h).bnd fun m h1 => .ok (.ref h1.length) (h1 ++ [m])
  | .bin o a b, ρ, h => (evE C a ρ h).bnd fun x h1 => (evE C b ρ h1).bnd fun y h2 => ofO h2 (binV h2 o x y)
  | .neg a, ρ, h => (evE C a ρ h).bnd fun x h1 => match x with
    | .int i => .ok (.int (-i)) h1
    | _ => .stuck
  | .not a, ρ, h => (evE C a ρ h).bnd fun x h1 => match tru h1 x with
    | some k => .ok (.bl !k) h1
    | none => .stuck
  | .cmp o a b, ρ, h => (evE C a ρ h).bnd fun x h1 => (evE C b ρ h1).bnd fun y h2 => ofO h2 ((cmpV h2 o x y).map .bl)
  | .chain o p a b c, ρ, h => (evE C a ρ h).bnd fun x h1 => (evE C b ρ h1).bnd fun y h2 => match cmpV h2 o x y with
    | some true => (evE C c ρ h2).bnd fun z h3 => ofO h3 ((cmpV h3 p y z).map .bl)
    | some false => .ok (.bl false) h2
    | none => .stuck
  | .and es, ρ, h => evAnd C es ρ h
  | .or es, ρ, h => evOr C es ρ h
  | .ife c a b, ρ, h => (evE C c ρ h).bnd fun x h1 => match tru h1 x with
    | some true => evE C a ρ h1
    | some false => evE C b ρ h1
    | none => .stuck
  | .call f es, ρ, h => (evEs C es ρ h).bnd fun vs h1 => C.fn f vs h1
  | .bi b es, ρ, h => (evEs C es ρ h).bnd fun vs h1 => ofO h1 (biV h1 b vs)
  | .isi a t, ρ, h => (evE C a ρ h).bnd fun x h1 => ofO h1 ((isiV h1 x t).map .bl)
  | .meth o m es, ρ, h => (evE C o ρ h).bnd fun x h1 => grd (rcv h1 x m) ((evEs C es ρ h1).bnd fun vs h2 => methV h2 x m vs)
  | .im o m es, ρ, h => (evE C o ρ h).bnd fun x h1 => match fldOf h1 x with
    | some (c, _, _) => (evEs C es ρ h1).bnd fun vs h2 => match C.meth c m with
      | some f => C.fn f (x :: vs) h2
      | none => .stuck
    | none => .stuck
  | .attr o x, ρ, h => (evE C o ρ h).bnd fun v h1 => match fldOf h1 v with
    | some (_, ns, vs) => ofO h1 (getF x ns vs)
    | none => .stuck
  | .sub o i, ρ, h => (evE C o ρ h).bnd fun x h1 => (evE C i ρ h1).bnd fun y h2 => ofO h2 (subV h2 x y)
  | .slc o a b, ρ, h => (evE C o ρ h).bnd fun x h1 => (evP C a ρ h1).bnd fun y h2 => (evP C b ρ h2).bnd fun z h3 => ofO h3 (slcV h3 x y z)
  | .new c es, ρ, h => (evEs C es ρ h).bnd fun vs h1 => match C.meth c 0 with
    | some f => (C.fn f (.ref h1.length :: vs) (h1 ++ [.ins c [] []])).bnd fun v h2 => grd (decide (v = .non)) (.ok (.ref h1.length) h2)
    | none => .stuck
  | .lam body, ρ, h => outc C (evE C body ρ h)
  | .lamR body w, ρ, h => (evE C w ρ h).bnd fun y h1 => match y with
    | .str u => grd (decide (u.length ≤ 1000)) ((outc C (evE C body ρ h1)).bnd fun v h2 => ofO h2 ((cmpV h2 .eq v (.tup [.str sError, .str (u ++ sBase), .non])).map .bl))
    | _ => .stuck
def evEs (C : Ctx) : List E → Env → AH → Res (List PV)
  | [], _, h => .ok [] h
  | e :: r, ρ, h => (evE C e ρ h).bnd fun v h1 => (evEs C r ρ h1).bnd fun vs h2 => .ok (v :: vs) h2
/-- a slice's part -/
def evP (C : Ctx) : List E → Env → AH → Res (Option Int)
  | [], _, h => .ok none h
  | [e], ρ, h => (evE C e ρ h).bnd fun v h1 => match v with
    | .int i => .ok (some i) h1
    | _ => .stuck
  | _, _, _ => .stuck
def evAnd (C : Ctx) : List E → Env → AH → Res PV
  | [], _, _ => .stuck
  | [e], ρ, h => evE C e ρ h
  | e :: r, ρ, h => (evE C e ρ h).bnd fun v h1 => match tru h1 v with
    | some true => evAnd C r ρ h1
    | some false => .ok v h1
    | none => .stuck
def evOr (C : Ctx) : List E → Env → AH → Res PV
  | [], _, _ => .stuck
  | [e], ρ, h => evE C e ρ h
  | e :: r, ρ, h => (evE C e ρ h).bnd fun v h1 => match tru h1 v with
    | some true => .ok v h1
    | some false => evOr C r ρ h1
    | none => .stuck
/-- what is new -/
def evA (C : Ctx) : A → Env → AH → Res MO
  | .disp es, ρ, h => (evEs C es ρ h).bnd fun vs h1 => .ok (.lst vs) h1
  | .cat a b, ρ, h => (evE C a ρ h).bnd fun x h1 => (evE C b ρ h1).bnd fun y h2 => ofO h2 (catV h2 x y)
  | .rep a b, ρ, h => (evE C a ρ h).bnd fun x h1 => (evE C b ρ h1).bnd fun y h2 => ofO h2 (repV h2 x y)
  | .comp own elt t it ifs, ρ, h => (evI C it ρ h).bnd fun p h1 =>
    (compL p.2 (fun x h2 => match setT h2 t x (wipe ρ own) with
      | some ρ' => (evIfs C ifs ρ' h2).bnd fun k h3 => match k with
        | true => (evE C elt ρ' h3).bnd fun v h4 => .ok (some v) h4
        | false => .ok none h3
      | none => .stuck) p.1 h1).bnd fun vs h2 => grd (decide (vs.length ≤ zLine)) (.ok (.lst vs) h2)
  | .comp2 own elt t it t2 it2 ifs, ρ, h => (evI C it ρ h).bnd fun p h1 =>
    (compL2 p.2 (fun x h2 => match setT h2 t x (wipe ρ own) with
      | some ρ' => (evI C it2 ρ' h2).bnd fun q h3 => compL q.2 (fun y h4 => match setT h4 t2 y (wipe ρ' t2.slots) with
        | some ρ2 => (evIfs C ifs ρ2 h4).bnd fun k h5 => match k with
          | true => (evE C elt ρ2 h5).bnd fun v h6 => .ok (some v) h6
          | false => .ok none h5
        | none => .stuck) q.1 h3
      | none => .stuck) p.1 h1).bnd fun vs h2 => grd (decide (vs.length ≤ zLine)) (.ok (.lst vs) h2)
  | .listof a, ρ, h => (evE C a ρ h).bnd fun x h1 => ofO h1 ((seqOf h1 x).map .lst)
  | .slice a b c, ρ, h => (evE C a ρ h).bnd fun x h1 => (evP C b ρ h1).bnd fun y h2 => (evP C c ρ h2).bnd fun z h3 => ofO h3 (slcM h3 x y z)
  | .dict0, _, h => .ok (.dct [] []) h
  | .ddisp ks es, ρ, h => (evEs C es ρ h).bnd fun vs h1 => grd (decide (ks.length = vs.length)) (.ok (.dct ks vs) h1)
  | _, _, _ => .stuck
/-- what is walked, in its order; the mutable thing that must stand still meanwhile -/
def evI (C : Ctx) : I → Env → AH → Res (List PV × Option (Nat × MO))
  | .val e, ρ, h => (evE C e ρ h).bnd fun v h1 => ofO h1 (itSeq h1 v)
  | .rng a b, ρ, h => (evE C a ρ h).bnd fun x h1 => (evE C b ρ h1).bnd fun y h2 => match x, y with
    | .int i, .int j => grd (small i && small j && decide (i.natAbs < 2 ^ 62) && decide (j.natAbs < 2 ^ 62) && decide (j - i ≤ 1000000)) (.ok (rngL i (j - i).toNat, none) h2)
    | _, _ => .stuck
  | .enum e, ρ, h => (evE C e ρ h).bnd fun v h1 => ofO h1 (enSeq h1 v)
  | .zip es, ρ, h => (evEs C es ρ h).bnd fun vs h1 => match vs with
    | [a, b] => match zipSeq a b with
      | some xs => .ok (xs, none) h1
      | none => .stuck
    | _ => .stuck
  | .items _, _, _ => .stuck
def evIfs (C : Ctx) : List E → Env → AH → Res Bool
  | [], _, h => .ok true h
  | [e], ρ, h => (evE C e ρ h).bnd fun v h1 => ofO h1 (tru h1 v)
  | _, _, _ => .stuck
end
mutual
def evS (C : Ctx) : S → Env → AH → Res Out
  | .asg i e, ρ, h => (evE C e ρ h).bnd fun v h1 => grd (decide (i < ρ.length)) (.ok (.next (ρ.set i (some v))) h1)
  | .asgT t e, ρ, h => (evE C e ρ h).bnd fun v h1 => ofO h1 ((setT h1 t v ρ).map .next)
  | .asgI o i e, ρ, h => (evE C e ρ h).bnd fun v h1 => (evE C o ρ h1).bnd fun x h2 => (evE C i ρ h2).bnd fun y h3 => match x with
    | .ref n => match h3[n]?, y with
      | some (.lst xs), .int j => match ixOf xs.length j with
        | some m => .ok (.next ρ) (h3.set n (.lst (xs.set m v)))
        | none => .stuck
      | some (.dct ks ws), _ => grd (keyOk y && decide (ks.length < 1000000)) (.ok (.next ρ) (h3.set n (.dct (putK y v ks ws).1 (putK y v ks ws).2)))
      | _, _ => .stuck
    | _ => .stuck
  | .asgA o a e, ρ, h => (evE C e ρ h).bnd fun v h1 => (evE C o ρ h1).bnd fun x h2 => match x with
    | .ref n => match h2[n]? with
      | some (.ins c ns vs) => grd (decide (ns.length < 1000)) (.ok (.next ρ) (h2.set n (.ins c (putF a v ns vs).1 (putF a v ns vs).2)))
      | _ => .stuck
    | _ => .stuck
  | .aug i o e, ρ, h => match ρ[i]? with
    | some (some x) => (evE C e ρ h).bnd fun y h1 => match x, y with
      | .int _, .int _ => ofO h1 ((binV h1 o x y).map fun z => .next (ρ.set i (some z)))
      | _, _ => .stuck
    | _ => .stuck
  | .expr e, ρ, h => (evE C e ρ h).bnd fun _ h1 => .ok (.next ρ) h1
  | .ret e, ρ, h => (evE C e ρ h).bnd fun v h1 => .ok (.ret v) h1
  | .ife c a b, ρ, h => (evE C c ρ h).bnd fun v h1 => match tru h1 v with
    | some true => evSs C a ρ h1
    | some false => evSs C b ρ h1
    | none => .stuck
  | .whl c b, ρ, h => whlL (fun ρ h => (evE C c ρ h).bnd fun v h1 => ofO h1 (tru h1 v)) (evSs C b) C.wf ρ h
  | .for t it b, ρ, h => (evI C it ρ h).bnd fun p h1 => forL p.2 (fun x ρ h2 => match setT h2 t x ρ with
      | some ρ' => evSs C b ρ' h2
      | none => .stuck) p.1 ρ h1
  | .raise c, _, h => .exc ⟨c, none⟩ h
  | .raiseN c e, ρ, h => (evE C e ρ h).bnd fun v h1 => match v with
    | .int n => .exc ⟨c, some n⟩ h1
    | _ => .stuck
  | .pass, ρ, h => .ok (.next ρ) h
def evSs (C : Ctx) : List S → Env → AH → Res Out
  | [], ρ, h => .ok (.next ρ) h
  | s :: r, ρ, h => (evS C s ρ h).bnd fun o h1 => match o with
    | .next ρ' => evSs C r ρ' h1
    | .ret v => .ok (.ret v) h1
end
/-! ### defs -/
/-- what a def leaves -/
def leave (d : Def) (h0 : AH) (v : PV) (h : AH) : Res PV := match d.keep with
  | true => .ok v h
  | false => grd (decide (h0.length ≤ h.length) && (decide (h.take h0.length = h0) || (h.take h0.length).all fun o => o.under h0.length))
      (match frz h h0.length 60 v with
      | some v' => .ok v' (h.take h0.length)
      | none => .stuck)
def runDef (C : Ctx) (d : Def) (vs : List PV) (h : AH) : Res PV :=
  grd (decide (vs.length = d.params)) (match evSs C d.body (vs.map some ++ List.replicate (d.slots - d.params) none) h with
  | .ok (.ret v) h1 => leave d h v h1
  | .ok (.next _) h1 => leave d h .non h1
  | .exc x h1 => grd (decide (h.length ≤ h1.length) && (decide (h1.take h.length = h) || (h1.take h.length).all fun o => o.under h.length)) (.exc x (h1.take h.length))
  | .stuck => .stuck)
/-- a program: its defs, its constants, its classes -/
structure Prg where
  defs : Nat → Option Def
  glob : Nat → Option PV
  meth : Nat → Nat → Option Nat
  word : Nat → Option (List Nat)
  wf : Nat
def Prg.ctx (P : Prg) (fn : Nat → List PV → AH → Res PV) : Ctx := ⟨fn, P.glob, P.meth, P.wf, P.word⟩
/-- calls, k deep -/
def Prg.call (P : Prg) : Nat → Nat → List PV → AH → Res PV
  | 0, _, _, _ => .stuck
  | k + 1, f, vs, h => match P.defs f with
    | some d => runDef (P.ctx (P.call k)) d vs h
    | none => .stuck
end Z
-- Z3
set_option Elab.async false
set_option linter.all false
set_option maxRecDepth 100000
/-! Layer Z, part 3: how pure values and the small heap stand in HandS's abstract heap. -/
namespace Z
open PySem PySem.Spec PyProof.Rows L2

/-- which addresses the small heap's things have; what is frozen -/
structure Zn where
  mp : List Addr
  fz : Addr → Option HO
  /-- what a loop builds meanwhile: no value names it -/
  rs : Addr → Option HO
/-- what is fixed: the written part, the classes, the names of attributes, the tables of code objects -/
structure Sta where
  K : PySem.W.Frag
  ca : Nat → Addr
  an : Nat → Str
  /-- the classes of exceptions -/
  xa : Nat → Addr
  T : List (Addr × Str)
structure Zn.Le (z z' : Zn) : Prop where
  mp : ∃ r, z'.mp = z.mp ++ r
  fz : ∀ a o, z.fz a = some o → z'.fz a = some o
  rs : ∀ a o, z.rs a = some o → z'.rs a = some o
theorem Zn.Le.refl (z : Zn) : z.Le z := ⟨⟨[], by simp⟩, fun _ _ h => h, fun _ _ h => h⟩
theorem Zn.Le.trans {a b c : Zn} (h : a.Le b) (k : b.Le c) : a.Le c := by
  obtain ⟨⟨r, e⟩, f, g⟩ := h
  obtain ⟨⟨r', e'⟩, f', g'⟩ := k
  exact ⟨⟨r ++ r', by rw [e', e, List.append_assoc]⟩, fun a o q => f' a o (f a o q), fun a o q => g' a o (g a o q)⟩
theorem Zn.Le.at {z z' : Zn} (h : z.Le z') {i : Nat} {a : Addr} (e : z.mp[i]? = some a) : z'.mp[i]? = some a := by
  obtain ⟨⟨r, q⟩, _, _⟩ := h
  rw [q, List.getElem?_append_left (List.getElem?_eq_some_iff.mp e).1]
  exact e

/-- a text of code points -/
abbrev toS (x : List Nat) : Str := ⟨x.toArray⟩
def okS (x : List Nat) : Bool := x.all fun c => decide (c < 1114112)
theorem rd_le {z z' : Zn} (h : z.Le z') {a : Addr} {o : HO} (r : Rd z.fz a o) : Rd z'.fz a o := by
  rcases r with r | ⟨u, r⟩
  · exact .inl (h.fz _ _ r)
  · exact .inr ⟨u, h.fz _ _ r⟩
theorem sqT_le {K : PySem.W.Frag} {z z' : Zn} (h : z.Le z') {a : Addr} {xs : List V} (r : SqT K z.fz a xs) : SqT K z'.fz a xs := by
  rcases r with r | r
  · exact .inl (rd_le h r)
  · exact .inr r
theorem sqL_le {K : PySem.W.Frag} {z z' : Zn} (h : z.Le z') {a : Addr} {xs : List V} (r : SqL K z.fz a xs) : SqL K z'.fz a xs := by
  rcases r with r | r
  · exact .inl (rd_le h r)
  · exact .inr r

mutual
def RV (W : Sta) (z : Zn) : PV → V → Prop
  | .non, v => v = .non
  | .bl b, v => v = .bl b
  | .int i, v => v = .int i
  | .str x, v => v = .str (toS x) ∧ x.length ≤ sizeLine ∧ okS x = true
  | .tup xs, v => ∃ a vs, v = .ref a ∧ SqT W.K z.fz a vs ∧ RVs W z xs vs
  | .lst xs, v => ∃ a vs, v = .ref a ∧ z.fz a = some (.lst vs) ∧ RVs W z xs vs
  | .scr xs, v => ∃ a vs, v = .ref a ∧ SqL W.K z.fz a vs ∧ RVs W z xs vs
  | .ref i, v => ∃ a, z.mp[i]? = some a ∧ v = .ref a
  | .dct ks vs, v => ∃ a kvs, v = .ref a ∧ z.fz a = some (.dK kvs) ∧ (kvs.map (·.1)).Nodup ∧ RVs W z ks (kvs.map fun q => L2.kV q.1) ∧ RVs W z vs (kvs.map (·.2))
  | .set _, _ => False
  | .obj c ns vs, v => ∃ a dx fs, v = .ref a ∧ z.fz a = some (.ins (W.ca c) dx fs) ∧ z.fz dx = some (.own a) ∧ fs.map (·.1) = ns.map W.an ∧ RVs W z vs (fs.map (·.2))
def RVs (W : Sta) (z : Zn) : List PV → List V → Prop
  | [], vs => vs = []
  | x :: r, vs => ∃ v t, vs = v :: t ∧ RV W z x v ∧ RVs W z r t
end
mutual
theorem RV.mono {W : Sta} {z z' : Zn} (h : z.Le z') : ∀ (x : PV) (v : V), RV W z x v → RV W z' x v
  | .non, _, r => r
  | .bl _, _, r => r
  | .int _, _, r => r
  | .str _, _, r => r
  | .tup xs, _, r => by
    obtain ⟨a, vs, e, q, r⟩ := r
    exact ⟨a, vs, e, sqT_le h q, RVs.mono h xs vs r⟩
  | .lst xs, _, r => by
    obtain ⟨a, vs, e, q, r⟩ := r
    exact ⟨a, vs, e, h.fz _ _ q, RVs.mono h xs vs r⟩
  | .scr xs, _, r => by
    obtain ⟨a, vs, e, q, r⟩ := r
    exact ⟨a, vs, e, sqL_le h q, RVs.mono h xs vs r⟩
  | .ref i, _, r => by
    obtain ⟨a, q, e⟩ := r
    exact ⟨a, h.at q, e⟩
  | .dct ks vs, _, r => by
    obtain ⟨a, kvs, e, q, nd, r1, r2⟩ := r
    exact ⟨a, kvs, e, h.fz _ _ q, nd, RVs.mono h ks _ r1, RVs.mono h vs _ r2⟩
  | .set _, _, r => r
  | .obj c ns vs, _, r => by
    obtain ⟨a, dx, fs, e, q1, q2, q3, r⟩ := r
    exact ⟨a, dx, fs, e, h.fz _ _ q1, h.fz _ _ q2, q3, RVs.mono h vs _ r⟩
theorem RVs.mono {W : Sta} {z z' : Zn} (h : z.Le z') : ∀ (xs : List PV) (vs : List V), RVs W z xs vs → RVs W z' xs vs
  | [], _, r => r
  | x :: t, _, r => by
    obtain ⟨v, us, e, r1, r2⟩ := r
    exact ⟨v, us, e, RV.mono h x v r1, RVs.mono h t us r2⟩
end
section
variable {W : Sta} {z : Zn}
theorem RVs.length : ∀ {xs : List PV} {vs : List V}, RVs W z xs vs → xs.length = vs.length
  | [], vs, r => by rw [show vs = [] from r]; rfl
  | x :: t, _, r => by
    obtain ⟨v, us, e, _, r2⟩ := r
    rw [e, List.length_cons, List.length_cons, RVs.length r2]
theorem RVs.nil : RVs W z [] [] := rfl
theorem RVs.cons {x : PV} {v : V} {xs : List PV} {vs : List V} (r : RV W z x v) (rs : RVs W z xs vs) : RVs W z (x :: xs) (v :: vs) := ⟨v, vs, rfl, r, rs⟩
theorem RVs.get : ∀ {xs : List PV} {vs : List V} {i : Nat} {x : PV}, RVs W z xs vs → xs[i]? = some x → ∃ v, vs[i]? = some v ∧ RV W z x v
  | [], _, _, _, _, e => by simp at e
  | y :: t, _, i, x, r, e => by
    obtain ⟨v, us, rfl, r1, r2⟩ := r
    cases i with
    | zero =>
      have e1 : y = x := by simpa using e
      subst e1
      exact ⟨v, rfl, r1⟩
    | succ i =>
      obtain ⟨w, h1, h2⟩ := RVs.get (i := i) r2 (by simpa using e)
      exact ⟨w, by simpa using h1, h2⟩
theorem RVs.getV : ∀ {xs : List PV} {vs : List V} {i : Nat} {v : V}, RVs W z xs vs → vs[i]? = some v → ∃ x, xs[i]? = some x ∧ RV W z x v
  | [], vs, _, _, r, e => by
    rw [show vs = [] from r] at e
    simp at e
  | y :: t, _, i, x, r, e => by
    obtain ⟨v, us, rfl, r1, r2⟩ := r
    cases i with
    | zero =>
      have e1 : v = x := by simpa using e
      subst e1
      exact ⟨y, rfl, r1⟩
    | succ i =>
      obtain ⟨w, h1, h2⟩ := RVs.getV (i := i) r2 (by simpa using e)
      exact ⟨w, by simpa using h1, h2⟩
theorem RVs.append : ∀ {xs ys : List PV} {vs us : List V}, RVs W z xs vs → RVs W z ys us → RVs W z (xs ++ ys) (vs ++ us)
  | [], _, vs, _, r, s => by
    rw [show vs = [] from r]
    exact s
  | x :: t, _, _, _, r, s => by
    obtain ⟨v, us, rfl, r1, r2⟩ := r
    exact RVs.cons r1 (RVs.append r2 s)
theorem RVs.drop : ∀ {xs : List PV} {vs : List V} (n : Nat), RVs W z xs vs → RVs W z (xs.drop n) (vs.drop n)
  | _, _, 0, r => r
  | [], vs, n + 1, r => by
    rw [show vs = [] from r]
    exact RVs.nil
  | x :: t, _, n + 1, r => by
    obtain ⟨v, us, rfl, r1, r2⟩ := r
    exact RVs.drop n r2
theorem RVs.take : ∀ {xs : List PV} {vs : List V} (n : Nat), RVs W z xs vs → RVs W z (xs.take n) (vs.take n)
  | _, _, 0, _ => RVs.nil
  | [], vs, n + 1, r => by
    rw [show vs = [] from r]
    exact RVs.nil
  | x :: t, _, n + 1, r => by
    obtain ⟨v, us, rfl, r1, r2⟩ := r
    exact RVs.cons r1 (RVs.take n r2)
theorem RVs.set {x : PV} {v : V} (q : RV W z x v) : ∀ {xs : List PV} {vs : List V} (i : Nat), RVs W z xs vs → RVs W z (xs.set i x) (vs.set i v)
  | [], vs, _, r => by
    rw [show vs = [] from r]
    exact RVs.nil
  | y :: t, _, i, r => by
    obtain ⟨v, us, rfl, r1, r2⟩ := r
    cases i with
    | zero => exact RVs.cons q r2
    | succ i => exact RVs.cons r1 (RVs.set q i r2)
end

/-! ### the small heap -/
def RMO (W : Sta) (z : Zn) (H : Hp) (a : Addr) : MO → Prop
  | .lst xs => ∃ vs, H a = some (.lst vs) ∧ RVs W z xs vs
  | .dct ks vs => ∃ kvs, H a = some (.dK kvs) ∧ (kvs.map (·.1)).Nodup ∧ RVs W z ks (kvs.map fun q => L2.kV q.1) ∧ RVs W z vs (kvs.map (·.2))
  | .ins c ns vs => ∃ dx fs, H a = some (.ins (W.ca c) dx fs) ∧ z.fz dx = some (.own a) ∧ fs.map (·.1) = ns.map W.an ∧ RVs W z vs (fs.map (·.2))
/-- not a table of code objects, not a code object -/
def plainO : HO → Bool
  | .tbl _ => false
  | .ext _ => false
  | _ => true
/-- not a table of code objects -/
def noTbl : HO → Bool
  | .tbl _ => false
  | _ => true
theorem plain_noTbl {o : HO} (h : plainO o = true) : noTbl o = true := by
  cases o <;> first | rfl | cases h
structure RH (W : Sta) (z : Zn) (h : AH) (H : Hp) : Prop where
  fz : ∀ a o, z.fz a = some o → H a = some o
  pl : ∀ a o, z.fz a = some o → noTbl o = true
  len : z.mp.length = h.length
  mo : ∀ (i : Nat) (m : MO) (a : Addr), h[i]? = some m → z.mp[i]? = some a → RMO W z H a m
  nd : z.mp.Nodup
  dis : ∀ a ∈ z.mp, z.fz a = none
  tab : LamX.Tabs W.T H
  rs : ∀ a o, z.rs a = some o → H a = some o ∧ z.fz a = none ∧ a ∉ z.mp ∧ plainO o = true
def addFz (z : Zn) (p : Addr) (o : HO) : Zn := ⟨z.mp, fun a => if a = p then some o else z.fz a, z.rs⟩
def addMp (z : Zn) (p : Addr) : Zn := ⟨z.mp ++ [p], z.fz, z.rs⟩
def addRs (z : Zn) (p : Addr) (o : HO) : Zn := ⟨z.mp, z.fz, fun a => if a = p then some o else z.rs a⟩
def dropRs (z : Zn) (p : Addr) : Zn := ⟨z.mp, z.fz, fun a => if a = p then none else z.rs a⟩
section
variable {W : Sta} {z z' : Zn} {h : AH} {H H' : Hp} {p : Addr} {o : HO}
theorem addFz_at : (addFz z p o).fz p = some o := by
  show (if p = p then some o else z.fz p) = some o
  rw [if_pos rfl]
theorem addFz_ne {a : Addr} (ne : a ≠ p) : (addFz z p o).fz a = z.fz a := by
  show (if a = p then some o else z.fz a) = z.fz a
  rw [if_neg ne]
theorem RH.notmp (R : RH W z h H) (n : H p = none) : p ∉ z.mp := fun m => by
  obtain ⟨i, hi, e⟩ := List.mem_iff_getElem.mp m
  have hl : i < h.length := by rw [← R.len]; exact hi
  have q := R.mo i h[i] p (List.getElem?_eq_getElem hl) (by rw [List.getElem?_eq_getElem hi, e])
  generalize h[i] = mo at q
  cases mo with
  | lst xs =>
    obtain ⟨vs, e, _⟩ := q
    rw [n] at e
    cases e
  | dct ks vs =>
    obtain ⟨kvs, e, _⟩ := q
    rw [n] at e
    cases e
  | ins c ns vs =>
    obtain ⟨dx, fs, e, _⟩ := q
    rw [n] at e
    cases e
theorem RH.notfz (R : RH W z h H) (n : H p = none) : z.fz p = none := by
  cases e : z.fz p with
  | none => rfl
  | some u =>
    rw [R.fz _ _ e] at n
    cases n
theorem RH.le_fz (R : RH W z h H) (n : H p = none) : z.Le (addFz z p o) := by
  refine ⟨⟨[], by simp [addFz]⟩, fun a u e => ?_, fun _ _ e => e⟩
  have ne : a ≠ p := fun q => by
    rw [q, R.notfz n] at e
    cases e
  rw [addFz_ne ne]
  exact e
theorem le_mp : z.Le (addMp z p) := ⟨⟨[p], rfl⟩, fun _ _ e => e, fun _ _ e => e⟩
theorem RH.notrs (R : RH W z h H) (n : H p = none) : z.rs p = none := by
  cases e : z.rs p with
  | none => rfl
  | some u =>
    rw [(R.rs _ _ e).1] at n
    cases n
theorem RMO.mono (L : z.Le z') {a : Addr} (k : ∀ u, H a = some u → H' a = some u) : ∀ {m : MO}, RMO W z H a m → RMO W z' H' a m
  | .lst xs, r => by
    obtain ⟨vs, e, q⟩ := r
    exact ⟨vs, k _ e, RVs.mono L _ _ q⟩
  | .dct ks vs, r => by
    obtain ⟨kvs, e, nd, r1, r2⟩ := r
    exact ⟨kvs, k _ e, nd, RVs.mono L ks _ r1, RVs.mono L vs _ r2⟩
  | .ins c ns vs, r => by
    obtain ⟨dx, fs, e, q1, q2, q⟩ := r
    exact ⟨dx, fs, k _ e, L.fz _ _ q1, q2, RVs.mono L _ _ q⟩
theorem tabs_new (t : LamX.Tabs W.T H) (n : H p = none) : LamX.Tabs W.T (upd H p o) := t.ext fun b u e => by
  rw [upd_ne (ne_of_none e n)]
  exact e
theorem tabs_set {u : HO} (t : LamX.Tabs W.T H) (n : H p = some u) (pl : plainO u = true) : LamX.Tabs W.T (upd H p o) := fun q hq => by
  obtain ⟨ps, h1, h2, h3⟩ := t q hq
  have nq : q.1 ≠ p := fun e => by
    rw [e, n] at h1
    cases h1
    cases pl
  refine ⟨ps, by rw [upd_ne nq]; exact h1, h2, fun pos cv hc => ?_⟩
  obtain ⟨c, e1, e2⟩ := h3 pos cv hc
  have nc : c ≠ p := fun e => by
    rw [e, n] at e2
    have e3 := Option.some.inj e2
    rw [e3] at pl
    cases pl
  exact ⟨c, e1, by rw [upd_ne nc]; exact e2⟩
/-- a new frozen thing -/
theorem RH.newFz (R : RH W z h H) (n : H p = none) (pl : noTbl o = true) : RH W (addFz z p o) h (upd H p o) := by
  have L : z.Le (addFz z p o) := R.le_fz n
  have nm := R.notmp n
  have nrs := R.notrs n
  refine ⟨fun a u e => ?_, fun a u e => ?_, R.len, fun i m a e1 e2 => ?_, R.nd, fun a ha => ?_, tabs_new R.tab n, fun a u e => ?_⟩
  · by_cases q : a = p
    · rw [q, addFz_at] at e
      rw [q, upd_same]
      exact e
    · rw [addFz_ne q] at e
      rw [upd_ne q]
      exact R.fz _ _ e
  · by_cases q : a = p
    · rw [q, addFz_at] at e
      cases e
      exact pl
    · rw [addFz_ne q] at e
      exact R.pl _ _ e
  · exact RMO.mono L (fun u q => by rw [upd_ne (ne_of_none q n)]; exact q) (R.mo i m a e1 e2)
  · have q : a ≠ p := fun q => nm (q ▸ ha)
    rw [addFz_ne q]
    exact R.dis a ha
  · obtain ⟨r1, r2, r3, r4⟩ := R.rs a u e
    have q : a ≠ p := ne_of_none r1 n
    exact ⟨by rw [upd_ne q]; exact r1, by rw [addFz_ne q]; exact r2, r3, r4⟩
/-- a new mutable thing -/
theorem RH.newMp {m : MO} (R : RH W z h H) (n : H p = none) (r : RMO W z (upd H p o) p m) : RH W (addMp z p) (h ++ [m]) (upd H p o) := by
  have nm := R.notmp n
  refine ⟨fun a u e => ?_, R.pl, by simp [addMp, R.len], fun i m' a e1 e2 => ?_, ?_, fun a ha => ?_, tabs_new R.tab n, fun a u e => ?_⟩
  · have q := R.fz _ _ e
    rw [upd_ne (ne_of_none q n)]
    exact q
  · by_cases hi : i < h.length
    · rw [List.getElem?_append_left hi] at e1
      have e2' : (z.mp ++ [p])[i]? = some a := e2
      rw [List.getElem?_append_left (by rw [R.len]; exact hi)] at e2'
      exact RMO.mono le_mp (fun u q => by rw [upd_ne (ne_of_none q n)]; exact q) (R.mo i m' a e1 e2')
    · have hi' : i = h.length := by
        have := (List.getElem?_eq_some_iff.mp e1).1
        rw [List.length_append, List.length_singleton] at this
        omega
      subst hi'
      have e1' : m' = m := by simpa using e1.symm
      have e2' : (z.mp ++ [p])[h.length]? = some a := e2
      rw [← R.len] at e2'
      have e3 : p = a := by simpa using e2'
      rw [e1', ← e3]
      exact RMO.mono le_mp (fun _ q => q) r
  · show (z.mp ++ [p]).Nodup
    rw [List.nodup_append]
    exact ⟨R.nd, by simp, fun a ha b hb e => nm (by simp at hb; rw [← hb, ← e]; exact ha)⟩
  · rcases List.mem_append.mp ha with q | q
    · exact R.dis a q
    · have e : a = p := by simpa using q
      rw [e]
      exact R.notfz n
  · obtain ⟨r1, r2, r3, r4⟩ := R.rs a u e
    have q : a ≠ p := ne_of_none r1 n
    refine ⟨by rw [upd_ne q]; exact r1, r2, fun m => ?_, r4⟩
    rcases List.mem_append.mp m with x | x
    · exact r3 x
    · exact q (by simpa using x)
theorem RMO.plain {a : Addr} : ∀ {m : MO}, RMO W z H a m → ∃ u, H a = some u ∧ plainO u = true
  | .lst xs, r => by
    obtain ⟨vs, e, _⟩ := r
    exact ⟨_, e, rfl⟩
  | .dct _ _, r => by
    obtain ⟨kvs, e, _⟩ := r
    exact ⟨_, e, rfl⟩
  | .ins c ns vs, r => by
    obtain ⟨dx, fs, e, _⟩ := r
    exact ⟨_, e, rfl⟩
/-- a mutable thing is changed -/
theorem RH.setMp {i : Nat} {m : MO} (R : RH W z h H) (hp : z.mp[i]? = some p) (r : RMO W z (upd H p o) p m) : RH W z (h.set i m) (upd H p o) := by
  have mem : p ∈ z.mp := List.mem_of_getElem? hp
  have hl : i < h.length := by rw [← R.len]; exact (List.getElem?_eq_some_iff.mp hp).1
  obtain ⟨u, hu, pu⟩ := (R.mo i _ p (List.getElem?_eq_getElem hl) hp).plain
  refine ⟨fun a u e => ?_, R.pl, by simp [R.len], fun j m' a e1 e2 => ?_, R.nd, R.dis, tabs_set R.tab hu pu, fun a u e => ?_⟩
  · have q : a ≠ p := fun q => by
      rw [q, R.dis p mem] at e
      cases e
    rw [upd_ne q]
    exact R.fz _ _ e
  · by_cases hj : j = i
    · subst hj
      rw [hp] at e2
      cases e2
      rw [List.getElem?_set_self hl] at e1
      cases e1
      exact r
    · rw [List.getElem?_set_ne (Ne.symm hj)] at e1
      have q : a ≠ p := fun q => by
        obtain ⟨l1, q1⟩ := List.getElem?_eq_some_iff.mp e2
        obtain ⟨l2, q2⟩ := List.getElem?_eq_some_iff.mp hp
        exact hj ((List.getElem_inj R.nd).mp (q1.trans (q.trans q2.symm)))
      exact RMO.mono (Zn.Le.refl z) (fun u e => by rw [upd_ne q]; exact e) (R.mo j m' a e1 e2)
  · obtain ⟨r1, r2, r3, r4⟩ := R.rs a u e
    have q : a ≠ p := fun q => r3 (q ▸ mem)
    exact ⟨by rw [upd_ne q]; exact r1, r2, r3, r4⟩
/-! ### a thing that a loop builds -/
theorem le_rs (R : RH W z h H) (n : H p = none) : z.Le (addRs z p o) := by
  refine ⟨⟨[], by simp [addRs]⟩, fun _ _ e => e, fun a u e => ?_⟩
  have q : a ≠ p := fun q => by
    rw [q, R.notrs n] at e
    cases e
  show (if a = p then some o else z.rs a) = some u
  rw [if_neg q]
  exact e
theorem rs_at : (addRs z p o).rs p = some o := by
  show (if p = p then some o else z.rs p) = some o
  rw [if_pos rfl]
theorem RH.newRs (R : RH W z h H) (n : H p = none) (pl : plainO o = true) : RH W (addRs z p o) h (upd H p o) := by
  refine ⟨fun a u e => ?_, R.pl, R.len, fun i m a e1 e2 => ?_, R.nd, R.dis, tabs_new R.tab n, fun a u e => ?_⟩
  · have q := R.fz a u e
    rw [upd_ne (ne_of_none q n)]
    exact q
  · exact RMO.mono (le_rs R n) (fun u q => by rw [upd_ne (ne_of_none q n)]; exact q) (R.mo i m a e1 e2)
  · by_cases q : a = p
    · rw [q, rs_at] at e
      cases e
      rw [q]
      exact ⟨upd_same, R.notfz n, R.notmp n, pl⟩
    · have e' : (if a = p then some o else z.rs a) = some u := e
      rw [if_neg q] at e'
      obtain ⟨r1, r2, r3, r4⟩ := R.rs a u e'
      exact ⟨by rw [upd_ne q]; exact r1, r2, r3, r4⟩
theorem le_drop {z0 : Zn} (L : z0.Le z) (n : z0.rs p = none) : z0.Le (dropRs z p) := by
  refine ⟨L.mp, L.fz, fun a u e => ?_⟩
  have q : a ≠ p := fun q => by
    rw [q, n] at e
    cases e
  show (if a = p then none else z.rs a) = some u
  rw [if_neg q]
  exact L.rs a u e
mutual
theorem RV.rsi {z z' : Zn} (hm : z'.mp = z.mp) (hf : z'.fz = z.fz) : ∀ (x : PV) (v : V), RV W z x v → RV W z' x v
  | .non, _, r => r
  | .bl _, _, r => r
  | .int _, _, r => r
  | .str _, _, r => r
  | .tup xs, _, r => by
    obtain ⟨a, vs, e, q, r⟩ := r
    exact ⟨a, vs, e, by rw [hf]; exact q, RVs.rsi hm hf xs vs r⟩
  | .lst xs, _, r => by
    obtain ⟨a, vs, e, q, r⟩ := r
    exact ⟨a, vs, e, by rw [hf]; exact q, RVs.rsi hm hf xs vs r⟩
  | .scr xs, _, r => by
    obtain ⟨a, vs, e, q, r⟩ := r
    exact ⟨a, vs, e, by rw [hf]; exact q, RVs.rsi hm hf xs vs r⟩
  | .ref i, _, r => by
    obtain ⟨a, q, e⟩ := r
    exact ⟨a, by rw [hm]; exact q, e⟩
  | .dct ks vs, _, r => by
    obtain ⟨a, kvs, e, q, nd, r1, r2⟩ := r
    exact ⟨a, kvs, e, by rw [hf]; exact q, nd, RVs.rsi hm hf ks _ r1, RVs.rsi hm hf vs _ r2⟩
  | .set _, _, r => r
  | .obj c ns vs, _, r => by
    obtain ⟨a, dx, fs, e, q1, q2, q3, r⟩ := r
    exact ⟨a, dx, fs, e, by rw [hf]; exact q1, by rw [hf]; exact q2, q3, RVs.rsi hm hf vs _ r⟩
theorem RVs.rsi {z z' : Zn} (hm : z'.mp = z.mp) (hf : z'.fz = z.fz) : ∀ (xs : List PV) (vs : List V), RVs W z xs vs → RVs W z' xs vs
  | [], _, r => r
  | x :: t, _, r => by
    obtain ⟨v, us, e, r1, r2⟩ := r
    exact ⟨v, us, e, RV.rsi hm hf x v r1, RVs.rsi hm hf t us r2⟩
end
theorem RMO.rsi {z z' : Zn} (hm : z'.mp = z.mp) (hf : z'.fz = z.fz) {a : Addr} (k : ∀ u, H a = some u → H' a = some u) : ∀ {m : MO}, RMO W z H a m → RMO W z' H' a m
  | .lst xs, r => by
    obtain ⟨vs, e, q⟩ := r
    exact ⟨vs, k _ e, RVs.rsi hm hf _ _ q⟩
  | .dct ks vs, r => by
    obtain ⟨kvs, e, nd, r1, r2⟩ := r
    exact ⟨kvs, k _ e, nd, RVs.rsi hm hf ks _ r1, RVs.rsi hm hf vs _ r2⟩
  | .ins c ns vs, r => by
    obtain ⟨dx, fs, e, q1, q2, q⟩ := r
    exact ⟨dx, fs, k _ e, by rw [hf]; exact q1, q2, RVs.rsi hm hf _ _ q⟩
/-- the thing changes -/
theorem RH.setRs {o' : HO} (R : RH W z h H) (e : z.rs p = some o) (pl : plainO o' = true) : RH W (addRs z p o') h (upd H p o') := by
  obtain ⟨hp, nf, nm, po⟩ := R.rs p o e
  refine ⟨fun a u e => ?_, R.pl, R.len, fun i m a e1 e2 => ?_, R.nd, R.dis, tabs_set R.tab hp po, fun a u e => ?_⟩
  · have q : a ≠ p := fun q => by
      have e' : z.fz a = some u := e
      rw [q, nf] at e'
      cases e'
    rw [upd_ne q]
    exact R.fz a u e
  · have q : a ≠ p := fun q => nm (q ▸ List.mem_of_getElem? e2)
    exact RMO.rsi (z := z) (z' := addRs z p o') (H := H) (H' := upd H p o') rfl rfl (fun u e => (upd_ne q).trans e) (R.mo i m a e1 e2)
  · by_cases q : a = p
    · rw [q, rs_at] at e
      cases e
      rw [q]
      exact ⟨upd_same, nf, nm, pl⟩
    · have e' : (if a = p then some o' else z.rs a) = some u := e
      rw [if_neg q] at e'
      obtain ⟨r1, r2, r3, r4⟩ := R.rs a u e'
      exact ⟨by rw [upd_ne q]; exact r1, r2, r3, r4⟩
/-- the heap without the thing at p -/
def offH (H : Hp) (p : Addr) : Hp := fun a => if a = p then none else H a
theorem off_at : offH H p p = none := by
  show (if p = p then none else H p) = none
  rw [if_pos rfl]
theorem off_ne {a : Addr} (n : a ≠ p) : offH H p a = H a := by
  show (if a = p then none else H a) = H a
  rw [if_neg n]
theorem upd_off (e : H p = some o) : upd (offH H p) p o = H := by
  funext a
  by_cases q : a = p
  · rw [q, upd_same, e]
  · rw [upd_ne q, off_ne q]
/-- the loop is done: the thing is out of sight -/
theorem RH.offRs (R : RH W z h H) (e : z.rs p = some o) : RH W (dropRs z p) h (offH H p) := by
  obtain ⟨hp, nf, nm, po⟩ := R.rs p o e
  refine ⟨fun a u e => ?_, R.pl, R.len, fun i m a e1 e2 => ?_, R.nd, R.dis, fun q hq => ?_, fun a u e => ?_⟩
  · have q : a ≠ p := fun q => by
      have e' : z.fz a = some u := e
      rw [q, nf] at e'
      cases e'
    rw [off_ne q]
    exact R.fz a u e
  · have q : a ≠ p := fun q => nm (q ▸ List.mem_of_getElem? e2)
    exact RMO.rsi (z := z) (z' := dropRs z p) (H := H) rfl rfl (fun u e => (off_ne (H := H) q).trans e) (R.mo i m a e1 e2)
  · obtain ⟨ps, h1, h2, h3⟩ := R.tab q hq
    have nq : q.1 ≠ p := fun e => by
      rw [e, hp] at h1
      cases h1
      cases po
    refine ⟨ps, by rw [off_ne nq]; exact h1, h2, fun pos cv hc => ?_⟩
    obtain ⟨c, e1, e2⟩ := h3 pos cv hc
    have nc : c ≠ p := fun e => by
      rw [e, hp] at e2
      have e3 := Option.some.inj e2
      rw [e3] at po
      cases po
    exact ⟨c, e1, by rw [off_ne nc]; exact e2⟩
  · by_cases q : a = p
    · have e' : (if a = p then none else z.rs a) = some u := e
      rw [if_pos q] at e'
      cases e'
    · have e' : (if a = p then none else z.rs a) = some u := e
      rw [if_neg q] at e'
      obtain ⟨r1, r2, r3, r4⟩ := R.rs a u e'
      exact ⟨by rw [off_ne q]; exact r1, r2, r3, r4⟩
/-- later, whatever loops build -/
structure Zn.Le0 (z z' : Zn) : Prop where
  mp : ∃ r, z'.mp = z.mp ++ r
  fz : ∀ a o, z.fz a = some o → z'.fz a = some o
theorem Zn.Le.le0 {z z' : Zn} (l : z.Le z') : z.Le0 z' := ⟨l.mp, l.fz⟩
theorem Zn.Le0.refl (z : Zn) : z.Le0 z := (Zn.Le.refl z).le0
theorem Zn.Le0.up {z z' : Zn} (l : z.Le0 z') : z.Le ⟨z'.mp, z'.fz, z.rs⟩ := ⟨l.mp, l.fz, fun _ _ e => e⟩
theorem Zn.Le0.trans {a b c : Zn} (h : a.Le0 b) (k : b.Le0 c) : a.Le0 c := by
  have q : a.Le ⟨b.mp, b.fz, a.rs⟩ := h.up
  have q2 : Zn.Le ⟨b.mp, b.fz, a.rs⟩ ⟨c.mp, c.fz, a.rs⟩ := ⟨k.mp, k.fz, fun _ _ e => e⟩
  exact ⟨(q.trans q2).mp, (q.trans q2).fz⟩
theorem Zn.Le0.at {z z' : Zn} (l : z.Le0 z') {i : Nat} {a : Addr} (e : z.mp[i]? = some a) : z'.mp[i]? = some a := l.up.at e
theorem RV.mono0 {z z' : Zn} (l : z.Le0 z') (x : PV) (v : V) (r : RV W z x v) : RV W z' x v := RV.rsi (z := ⟨z'.mp, z'.fz, z.rs⟩) (z' := z') rfl rfl x v (RV.mono l.up x v r)
theorem RVs.mono0 {z z' : Zn} (l : z.Le0 z') (x : List PV) (v : List V) (r : RVs W z x v) : RVs W z' x v := RVs.rsi (z := ⟨z'.mp, z'.fz, z.rs⟩) (z' := z') rfl rfl x v (RVs.mono l.up x v r)
theorem sqT_le0 {K : PySem.W.Frag} {z z' : Zn} (l : z.Le0 z') {a : Addr} {xs : List V} (r : SqT K z.fz a xs) : SqT K z'.fz a xs := sqT_le (z' := ⟨z'.mp, z'.fz, z.rs⟩) l.up r
theorem le0_drop {z0 : Zn} (L : z0.Le0 z) : z0.Le0 (dropRs z p) := ⟨L.mp, L.fz⟩
theorem le0_add {z0 : Zn} (L : z0.Le0 z) : z0.Le0 (addRs z p o) := ⟨L.mp, L.fz⟩
end
end Z
-- Z4
set_option Elab.async false
set_option linter.all false
set_option maxRecDepth 100000
set_option maxHeartbeats 1000000
/-! Layer Z, part 4: readings of the evaluator's results; names, operators, tests. -/
namespace L2
open PySem PySem.Spec PyProof.Rows
theorem PE.imp {X : Cx} {e : Expr} {t t' : TE} (p : PE X e t) (i : ∀ σ H Q, t' σ H Q → t σ H Q) : PE X e t' := ⟨fun pins s σ H Q I q => p.run pins s σ H Q I (i σ H Q q)⟩
theorem PT.imp {X : Cx} {e : Expr} {t t' : TT} (p : PT X e t) (i : ∀ σ H Q, t' σ H Q → t σ H Q) : PT X e t' := ⟨fun pins s σ H Q I q => p.run pins s σ H Q I (i σ H Q q)⟩
theorem PW.imp' {X : Cx} {e : Expr} {t t' : TT} (p : PW X e t) (i : ∀ σ H Q, t' σ H Q → t σ H Q) : PW X e t' := ⟨fun w pins s σ H Q I q => p.run w pins s σ H Q I (i σ H Q q)⟩
theorem PA.imp {X : Cx} {e : List Expr} {t t' : TA} (p : PA X e t) (i : ∀ σ H Q, t' σ H Q → t σ H Q) : PA X e t' := ⟨fun pos pins s σ H Q I q => p.run pos pins s σ H Q I (i σ H Q q)⟩
theorem PS.imp {X : Cx} {e : Stmt} {t t' : TS} (p : PS X e t) (i : ∀ D σ H, t' D σ H → t D σ H) : PS X e t' := ⟨fun pins s σ H D I q => p.run pins s σ H D I (i D σ H q)⟩
theorem PSs.imp {X : Cx} {e : List Stmt} {t t' : TS} (p : PSs X e t) (i : ∀ D σ H, t' D σ H → t D σ H) : PSs X e t' := ⟨fun pins s σ H D I q => p.run pins s σ H D I (i D σ H q)⟩
end L2
namespace Z
open PySem PySem.Spec PyProof.Rows L2

/-- the slots -/
structure RE (W : Sta) (z : Zn) (ρ : Env) (σ : L2.St) : Prop where
  len : ρ.length = σ.length
  at_ : ∀ (i : Nat) (v : PV), ρ[i]? = some (some v) → ∃ v', σ[i]? = some (some v') ∧ RV W z v v'
/-- an exception -/
def RX (W : Sta) (x : Ex) (cls : Value) (d : Option Addr) (H : Hp) : Prop :=
  cls = .ref (W.xa x.c) ∧ match x.n with
    | none => d = none
    | some n => ∃ dx, d = some dx ∧ H dx = some (.xd [(("number" : Str), .int n)])
def Post {α : Type} (W : Sta) (z : Zn) (E : XK) (r : Res α) (K : Zn → α → AH → Hp → Prop) : Prop := match r with
  | .ok a h => ∀ z' H', z.Le z' → RH W z' h H' → K z' a h H'
  | .exc x h => ∀ z' cls d H', z.Le z' → RX W x cls d H' → RH W z' h H' → E cls d H'
  | .stuck => False
section
variable {α β : Type} {W : Sta} {z z1 : Zn} {E : XK} {r : Res α} {K K' : Zn → α → AH → Hp → Prop}
theorem Post.mono (L : z.Le z1) (p : Post W z E r K) : Post W z1 E r K := by
  cases r with
  | ok a h => exact fun z' H' l R => p z' H' (L.trans l) R
  | exc x h => exact fun z' cls d H' l q R => p z' cls d H' (L.trans l) q R
  | stuck => exact p
theorem Post.imp (p : Post W z E r K) (f : ∀ z' a h' H', z.Le z' → RH W z' h' H' → K z' a h' H' → K' z' a h' H') : Post W z E r K' := by
  cases r with
  | ok a h => exact fun z' H' l R => f z' a h H' l R (p z' H' l R)
  | exc x h => exact p
  | stuck => exact p
theorem Post.bnd {f : α → AH → Res β} {K : Zn → β → AH → Hp → Prop} (p : Post W z E (r.bnd f) K) : Post W z E r fun z1 a h1 _ => Post W z1 E (f a h1) K := by
  cases r with
  | ok a h => exact fun z' H' l R => Post.mono l p
  | exc x h => exact p
  | stuck => exact p
theorem Post.ok {a : α} {h : AH} {H : Hp} (p : Post W z E (.ok a h) K) (R : RH W z h H) : K z a h H := p z H (Zn.Le.refl z) R
end
/-- a value comes, Q is wanted of it -/
abbrev KV (W : Sta) (Q : VK) : Zn → PV → AH → Hp → Prop := fun z v _ H => ∀ v', RV W z v v' → Q v' H
def tE (W : Sta) (E : XK) (f : Env → AH → Res PV) : TE := fun σ H Q => ∃ z ρ h, RE W z ρ σ ∧ RH W z h H ∧ Post W z E (f ρ h) (KV W Q)
def tT (W : Sta) (E : XK) (f : Env → AH → Res Bool) : TT := fun σ H Q => ∃ z ρ h, RE W z ρ σ ∧ RH W z h H ∧ Post W z E (f ρ h) fun _ b _ H' => Q b H'
def tA (W : Sta) (E : XK) (f : Env → AH → Res (List PV)) : TA := fun σ H Q => ∃ z ρ h, RE W z ρ σ ∧ RH W z h H ∧ Post W z E (f ρ h) fun z' vs _ H' => ∀ vs', RVs W z' vs vs' → Q vs' H'
/-- two values in -/
def r2 (W : Sta) (E : XK) (k : PV → PV → AH → Res PV) : R2 := fun x y H Q => ∃ z a b h, RV W z a x ∧ RV W z b y ∧ RH W z h H ∧ Post W z E (k a b h) (KV W Q)
def r1 (W : Sta) (E : XK) (k : PV → AH → Res PV) : V → Hp → VK → Prop := fun x H Q => ∃ z a h, RV W z a x ∧ RH W z h H ∧ Post W z E (k a h) (KV W Q)
def rs (W : Sta) (E : XK) (k : List PV → AH → Res PV) : List V → Hp → VK → Prop := fun xs H Q => ∃ z as h, RVs W z as xs ∧ RH W z h H ∧ Post W z E (k as h) (KV W Q)
section
variable {W : Sta} {z z1 : Zn} {E : XK} {ρ : Env} {σ : L2.St} {h : AH} {H : Hp}
theorem RE.mono (L : z.Le z1) (r : RE W z ρ σ) : RE W z1 ρ σ := ⟨r.len, fun i v e =>
  let ⟨v', q, x⟩ := r.at_ i v e
  ⟨v', q, RV.mono L v v' x⟩⟩
theorem RE.set {i : Nat} {v : PV} {v' : V} (r : RE W z ρ σ) (q : RV W z v v') : RE W z (ρ.set i (some v)) (σ.set i (some v')) := by
  refine ⟨by simp [r.len], fun j u e => ?_⟩
  by_cases hj : j = i
  · subst hj
    have hl : j < ρ.length := by
      have := (List.getElem?_eq_some_iff.mp e).1
      simpa using this
    rw [List.getElem?_set_self hl] at e
    cases e
    exact ⟨v', List.getElem?_set_self (by rw [← r.len]; exact hl), q⟩
  · rw [List.getElem?_set_ne (Ne.symm hj)] at e
    obtain ⟨w, a, b⟩ := r.at_ j u e
    exact ⟨w, by rw [List.getElem?_set_ne (Ne.symm hj)]; exact a, b⟩
/-- first f, then g, then what is made of both -/
theorem tE2 {f g : Env → AH → Res PV} {k : PV → PV → AH → Res PV} {Q : VK} (q : tE W E (fun ρ h => (f ρ h).bnd fun x h1 => (g ρ h1).bnd fun y h2 => k x y h2) σ H Q) : tOp (r2 W E k) (tE W E f) (tE W E g) σ H Q := by
  obtain ⟨z, ρ, h, re, rh, p⟩ := q
  refine ⟨z, ρ, h, re, rh, p.bnd.imp fun z1 a h1 H1 l1 R1 p1 v1 rv1 => ?_⟩
  refine ⟨z1, ρ, h1, re.mono l1, R1, p1.bnd.imp fun z2 b h2 H2 l2 R2 p2 v2 rv2 => ?_⟩
  exact ⟨z2, a, b, h2, RV.mono l2 _ _ rv1, rv2, R2, p2⟩
theorem tE1 {f : Env → AH → Res PV} {k : PV → AH → Res PV} {Q : VK} (q : tE W E (fun ρ h => (f ρ h).bnd fun x h1 => k x h1) σ H Q) : tUn (r1 W E k) (tE W E f) σ H Q := by
  obtain ⟨z, ρ, h, re, rh, p⟩ := q
  exact ⟨z, ρ, h, re, rh, p.bnd.imp fun z1 a h1 H1 l1 R1 p1 v1 rv1 => ⟨z1, a, h1, rv1, R1, p1⟩⟩
theorem tEs {f : Env → AH → Res (List PV)} {k : List PV → AH → Res PV} {Q : VK} (q : tE W E (fun ρ h => (f ρ h).bnd fun x h1 => k x h1) σ H Q) : tCB (rs W E k) (tA W E f) σ H Q := by
  obtain ⟨z, ρ, h, re, rh, p⟩ := q
  exact ⟨z, ρ, h, re, rh, p.bnd.imp fun z1 a h1 H1 l1 R1 p1 v1 rv1 => ⟨z1, a, h1, rv1, R1, p1⟩⟩
end
section
variable {X : Cx} {W : Sta} {E : XK} {C : Ctx}

/-! ### names and constants -/
theorem zVar {i : Nat} {x : Str} {pos : Pos} (hN : X.N[i]? = some x) (hv : Vis X.env.scope x) (hd : (x == ("__debug__" : Str)) = false) (hcd : (x == ("__classdict__" : Str)) = false) : PE X (.Name x pos) (tE W E (evE C (.var i))) := by
  refine (pe_var hN hv hd hcd).imp fun σ H Q ⟨z, ρ, h, re, rh, p⟩ => ?_
  have p' : Post W z E (match ρ[i]? with
    | some (some v) => Res.ok v h
    | _ => .stuck) (KV W Q) := p
  cases e : ρ[i]? with
  | none =>
    rw [e] at p'
    exact p'.elim
  | some o =>
    rw [e] at p'
    cases o with
    | none => exact p'.elim
    | some v =>
      obtain ⟨v', q, rv⟩ := re.at_ i v e
      exact ⟨v', q, Post.ok p' rh v' rv⟩
/-- a value that is the same at all times -/
theorem zConst {e : Expr} {v : PV} {u : V} (hp : PE X e (tC u)) (hv : ∀ z, RV W z v u) : PE X e (tE W E (evE C (.cst v))) := by
  refine hp.imp fun σ H Q ⟨z, ρ, h, re, rh, p⟩ => ?_
  exact Post.ok (K := KV W Q) p rh u (hv z)
end

/-! ### arithmetic -/
section
variable {X : Cx} {W : Sta} {E : XK}
theorem small_le {i : Int} (h : small i = true) : -(2 ^ 64) < i ∧ i < 2 ^ 64 := by
  have : i.natAbs < 2 ^ 64 := of_decide_eq_true h
  omega
end
end Z
-- Z5
set_option Elab.async false
set_option linter.all false
set_option maxRecDepth 100000
set_option maxHeartbeats 1000000
/-! Layer Z, part 5: operators on values. -/
namespace Z
open PySem PySem.Spec PyProof.Rows L2
section
variable {W : Sta} {z : Zn} {h : AH} {H : Hp} {E : XK} {Q : VK}
theorem sqT_H {K : PySem.W.Frag} (R : RH W z h H) {a : Addr} {xs : List V} (r : SqT K z.fz a xs) : SqT K H a xs := by
  rcases r with (r | ⟨o, r⟩) | r
  · exact .inl (.inl (R.fz _ _ r))
  · exact .inl (.inr ⟨o, R.fz _ _ r⟩)
  · exact .inr r
theorem sqL_H {K : PySem.W.Frag} (R : RH W z h H) {a : Addr} {xs : List V} (r : SqL K z.fz a xs) : SqL K H a xs := by
  rcases r with (r | ⟨o, r⟩) | r
  · exact .inl (.inl (R.fz _ _ r))
  · exact .inl (.inr ⟨o, R.fz _ _ r⟩)
  · exact .inr r
theorem refMO {i : Nat} {m : MO} {x : V} (R : RH W z h H) (r : RV W z (.ref i) x) (e : h[i]? = some m) : ∃ p, z.mp[i]? = some p ∧ x = .ref p ∧ RMO W z H p m := by
  obtain ⟨a, q, rfl⟩ := r
  exact ⟨a, q, rfl, R.mo i m a e q⟩
theorem lkL {a : PV} {x : V} {xs : List PV} (R : RH W z h H) (r : RV W z a x) (e : look h a = .lst xs) : ∃ p vs, x = .ref p ∧ H p = some (.lst vs) ∧ RVs W z xs vs := by
  cases a with
  | lst ys =>
    cases e
    obtain ⟨p, vs, rfl, q, r⟩ := r
    exact ⟨p, vs, rfl, R.fz _ _ q, r⟩
  | ref i =>
    unfold look at e
    simp only at e
    split at e
    · rename_i ys hy
      cases e
      obtain ⟨p, _, rfl, vs, q, r⟩ := refMO R r hy
      exact ⟨p, vs, rfl, q, r⟩
    · cases e
    · cases e
  | _ => cases e
theorem lkSq {a : PV} {x : V} {xs : List PV} (R : RH W z h H) (r : RV W z a x) (e : seqOf h a = some xs) : ∃ p vs, x = .ref p ∧ (SqL W.K H p vs ∨ SqT W.K H p vs) ∧ RVs W z xs vs := by
  cases a with
  | tup ys =>
    cases e
    obtain ⟨p, vs, rfl, q, r⟩ := r
    exact ⟨p, vs, rfl, .inr (sqT_H R q), r⟩
  | lst ys =>
    cases e
    obtain ⟨p, vs, rfl, q, r⟩ := r
    exact ⟨p, vs, rfl, .inl (SqL.of (R.fz _ _ q)), r⟩
  | scr ys =>
    cases e
    obtain ⟨p, vs, rfl, q, r⟩ := r
    exact ⟨p, vs, rfl, .inl (sqL_H R q), r⟩
  | ref i =>
    unfold seqOf at e
    simp only at e
    split at e
    · rename_i ys hy
      cases e
      obtain ⟨p, _, rfl, vs, q, r⟩ := refMO R r hy
      exact ⟨p, vs, rfl, .inl (SqL.of q), r⟩
    · cases e
  | _ => cases e
theorem newL {xs : List PV} {vs : List V} (R : RH W z h H) (r : RVs W z xs vs) (p : Post W z E (.ok (.lst xs) h) (KV W Q)) (a : Addr) (n : H a = none) : Q (.ref a) (upd H a (.lst vs)) :=
  p (addFz z a (.lst vs)) _ (R.le_fz n) (R.newFz n rfl) _ ⟨a, vs, rfl, addFz_at, RVs.mono (R.le_fz n) _ _ r⟩
theorem newT {xs : List PV} {vs : List V} (R : RH W z h H) (r : RVs W z xs vs) (p : Post W z E (.ok (.tup xs) h) (KV W Q)) (a : Addr) (n : H a = none) : Q (.ref a) (upd H a (.tup vs)) :=
  p (addFz z a (.tup vs)) _ (R.le_fz n) (R.newFz n rfl) _ ⟨a, vs, rfl, .inl (.inl addFz_at), RVs.mono (R.le_fz n) _ _ r⟩
theorem okV {v : PV} {u : V} (R : RH W z h H) (p : Post W z E (.ok v h) (KV W Q)) (r : RV W z v u) : Q u H := Post.ok p R u r
theorem ofO_cond {α : Type} {c : Bool} {a : α} {K : Zn → α → AH → Hp → Prop} (p : Post W z E (ofO h (ocond c a)) K) : c = true ∧ Post W z E (.ok a h) K := by
  cases c with
  | true => exact ⟨rfl, p⟩
  | false => exact p.elim
theorem zLine_eq : zLine = sizeLine := by rw [sizeLine_eq]; rfl
theorem repL_eq {α : Type} (xs : List α) (n : Nat) : repL xs n = (List.replicate n xs).flatten := by
  induction n with
  | zero => rfl
  | succ n ih => rw [List.replicate_succ, List.flatten_cons, ← ih]; rfl
theorem repL_length {α : Type} (xs : List α) (n : Nat) : (repL xs n).length = n * xs.length := by
  induction n with
  | zero => simp [repL]
  | succ n ih => rw [repL, List.length_append, ih, Nat.succ_mul, Nat.add_comm]
theorem RVs.rep {xs : List PV} {vs : List V} (r : RVs W z xs vs) (n : Nat) : RVs W z (repL xs n) (repL vs n) := by
  induction n with
  | zero => exact RVs.nil
  | succ n ih => exact RVs.append r ih
theorem okS_app {a b : List Nat} (h : okS a = true) (k : okS b = true) : okS (a ++ b) = true := by
  unfold okS at *
  rw [List.all_append, h, k]
  rfl
theorem toS_app (a b : List Nat) : toS a ++ toS b = toS (a ++ b) := by
  show Str.append _ _ = _
  unfold Str.append
  simp
end
section
variable {X : Cx} {W : Sta} {E : XK}
theorem opSub : OpR X (binaryOp .Sub) (r2 W E fun x y h => ofO h (binV h .sub x y)) := by
  intro pins s σ H x y v u Q I rx ry ⟨z, a, b, h, ra, rb, R, p⟩
  cases a with
  | int i =>
    cases b with
    | int j =>
      cases ra
      cases rb
      exact op_sub pins s σ H _ _ v u Q I rx ry ⟨i, j, rfl, rfl, okV R p rfl⟩
    | _ => exact p.elim
  | _ => exact p.elim
theorem opMod : OpR X (binaryOp .Mod) (r2 W E fun x y h => ofO h (binV h .mod x y)) := by
  intro pins s σ H x y v u Q I rx ry ⟨z, a, b, h, ra, rb, R, p⟩
  cases a with
  | int i =>
    cases b with
    | int j =>
      cases ra
      cases rb
      obtain ⟨c, p⟩ := ofO_cond p
      exact op_mod pins s σ H _ _ v u Q I rx ry ⟨i, j, rfl, rfl, of_decide_eq_true c, okV R p rfl⟩
    | _ => exact p.elim
  | _ => exact p.elim
theorem opFdiv : OpR X (binaryOp .FloorDiv) (r2 W E fun x y h => ofO h (binV h .fdiv x y)) := by
  intro pins s σ H x y v u Q I rx ry ⟨z, a, b, h, ra, rb, R, p⟩
  cases a with
  | int i =>
    cases b with
    | int j =>
      cases ra
      cases rb
      obtain ⟨c, p⟩ := ofO_cond p
      simp only [Bool.and_eq_true, decide_eq_true_eq] at c
      exact op_fdiv pins s σ H _ _ v u Q I rx ry ⟨i, j, rfl, rfl, c, okV R p rfl⟩
    | _ => exact p.elim
  | _ => exact p.elim
theorem opPow : OpR X (binaryOp .Pow) (r2 W E fun x y h => ofO h (binV h .pow x y)) := by
  intro pins s σ H x y v u Q I rx ry ⟨z, a, b, h, ra, rb, R, p⟩
  cases a with
  | int i =>
    cases b with
    | int j =>
      cases ra
      cases rb
      obtain ⟨c, p⟩ := ofO_cond p
      simp only [Bool.and_eq_true, decide_eq_true_eq, small] at c
      exact op_pow pins s σ H _ _ v u Q I rx ry ⟨i, j, rfl, rfl, ⟨c.1.1, c.1.2, c.2⟩, okV R p rfl⟩
    | _ => exact p.elim
  | _ => exact p.elim
theorem opAdd (hK : X.K = W.K) : OpR X (binaryOp .Add) (r2 W E fun x y h => ofO h (binV h .add x y)) := by
  intro pins s σ H x y v u Q I rx ry ⟨z, a, b, h, ra, rb, R, p⟩
  have key : (∀ i, a ≠ .int i) → (∀ i, a ≠ .str i) → (∀ i, a ≠ .tup i) → wpAny (model X.prog X.w) X.A (binaryOp .Add v u) (EP X pins σ Q) X.xe s := fun n1 n2 n3 => by
    have p' : Post W z E (ofO h ((catV h a b).map freezeMO)) (KV W Q) := by
      cases a with
      | int i => exact absurd rfl (n1 i)
      | str i => exact absurd rfl (n2 i)
      | tup i => exact absurd rfl (n3 i)
      | _ => exact p
    unfold catV at p'
    cases ea : look h a with
    | lst xs =>
      cases eb : look h b with
      | lst ys =>
        rw [ea, eb] at p'
        simp only at p'
        cases c : decide (xs.length + ys.length ≤ zLine) with
        | false =>
          rw [c] at p'
          exact p'.elim
        | true =>
          rw [c] at p'
          obtain ⟨p1, vs, rfl, h1, r1⟩ := lkL R ra ea
          obtain ⟨p2, us, rfl, h2, r2⟩ := lkL R rb eb
          have hz := of_decide_eq_true c
          rw [zLine_eq, r1.length, r2.length] at hz
          exact op_cat pins s σ H _ _ v u Q I rx ry ⟨p1, p2, vs, us, rfl, rfl, h1, h2, hz, fun q n => newL R (RVs.append r1 r2) p' q n⟩
      | _ =>
        rw [ea, eb] at p'
        exact p'.elim
    | _ =>
      rw [ea] at p'
      exact p'.elim
  cases a with
  | int i =>
    cases b with
    | int j =>
      cases ra
      cases rb
      exact op_add pins s σ H _ _ v u Q I rx ry ⟨i, j, rfl, rfl, okV R p rfl⟩
    | _ => exact p.elim
  | str i =>
    cases b with
    | str j =>
      obtain ⟨rfl, l1, o1⟩ := ra
      obtain ⟨rfl, l2, o2⟩ := rb
      obtain ⟨c, p⟩ := ofO_cond p
      have hz := of_decide_eq_true c
      rw [zLine_eq] at hz
      exact op_add_str pins s σ H _ _ v u Q I rx ry ⟨_, _, rfl, rfl, hz, by rw [toS_app]; exact okV R p ⟨rfl, by rw [List.length_append]; exact hz, okS_app o1 o2⟩⟩
    | _ => exact p.elim
  | tup i =>
    cases b with
    | tup j =>
      obtain ⟨p1, vs, rfl, h1, r1⟩ := ra
      obtain ⟨p2, us, rfl, h2, r2⟩ := rb
      obtain ⟨c, p⟩ := ofO_cond p
      have hz := of_decide_eq_true c
      rw [zLine_eq, r1.length, r2.length] at hz
      refine op_catA pins s σ H _ _ v u Q I rx ry ⟨p1, p2, vs, us, rfl, rfl, by rw [hK]; exact sqT_H R h1, by rw [hK]; exact sqT_H R h2, hz, fun e => ?_, fun e1 e2 => ?_, fun e1 e2 q n => newT R (RVs.append r1 r2) p q n⟩
      · subst e
        have : i = [] := List.length_eq_zero_iff.mp r1.length
        subst this
        exact okV R p ⟨p2, us, rfl, h2, r2⟩
      · subst e2
        have : j = [] := List.length_eq_zero_iff.mp r2.length
        subst this
        rw [List.append_nil] at p
        exact okV R p ⟨p1, vs, rfl, h1, r1⟩
    | _ => exact p.elim
  | non => exact key nofun nofun nofun
  | bl _ => exact key nofun nofun nofun
  | lst _ => exact key nofun nofun nofun
  | dct _ _ => exact key nofun nofun nofun
  | set _ => exact key nofun nofun nofun
  | ref _ => exact key nofun nofun nofun
  | obj _ _ _ => exact key nofun nofun nofun
  | scr _ => exact key nofun nofun nofun
theorem opMul (hK : X.K = W.K) : OpR X (binaryOp .Mult) (r2 W E fun x y h => ofO h (binV h .mul x y)) := by
  intro pins s σ H x y v u Q I rx ry ⟨z, a, b, h, ra, rb, R, p⟩
  cases b with
  | int j =>
    cases rb
    have key : (∀ i, a ≠ .int i) → (∀ i, a ≠ .str i) → (∀ i, a ≠ .tup i) → wpAny (model X.prog X.w) X.A (binaryOp .Mult v u) (EP X pins σ Q) X.xe s := fun n1 n2 n3 => by
      have p' : Post W z E (ofO h ((repV h a (.int j)).map freezeMO)) (KV W Q) := by
        cases a with
        | int i => exact absurd rfl (n1 i)
        | str i => exact absurd rfl (n2 i)
        | tup i => exact absurd rfl (n3 i)
        | _ => exact p
      unfold repV at p'
      cases ea : look h a with
      | lst xs =>
        rw [ea] at p'
        simp only at p'
        cases c : (decide (0 ≤ j) && decide (j < 1000000) && decide (xs.length < 10)) with
        | false =>
          rw [c] at p'
          exact p'.elim
        | true =>
          rw [c] at p'
          obtain ⟨p1, vs, rfl, h1, r1⟩ := lkL R ra ea
          simp only [Bool.and_eq_true, decide_eq_true_eq] at c
          have hl := r1.length
          refine op_rep pins s σ H _ _ v u Q I rx ry ⟨p1, j, vs, rfl, rfl, h1, by omega, by omega, ?_, fun q n => ?_⟩
          · rw [sizeLine_eq]
            have h10 : vs.length ≤ 10 := by omega
            have hj : j.toNat ≤ 1000000 := by omega
            exact Nat.le_trans (Nat.mul_le_mul h10 hj) (by decide)
          · rw [← repL_eq]
            exact newL R (r1.rep _) p' q n
      | _ =>
        rw [ea] at p'
        exact p'.elim
    cases a with
    | int i =>
      cases ra
      obtain ⟨c, p⟩ := ofO_cond p
      by_cases c1 : (small i || small j) = true
      · have hc : CMul i j := by
          rcases Bool.or_eq_true_iff.mp c1 with c1 | c1
          · exact .inl (small_le c1)
          · exact .inr (small_le c1)
        exact op_mul pins s σ H _ _ v u Q I rx ry ⟨i, j, rfl, rfl, hc, okV R p rfl⟩
      · have c2 : i.natAbs < 2 ^ 4000 ∧ j.natAbs < 2 ^ 4000 := by
          unfold mulOk at c
          simp only [Bool.or_eq_true, Bool.and_eq_true, decide_eq_true_eq] at c c1
          rcases c with (c | c) | c
          · exact absurd (.inl c) c1
          · exact absurd (.inr c) c1
          · exact c
        exact op_mulW pins s σ H _ _ v u Q I rx ry ⟨i, j, rfl, rfl, wide_mul c2.1 c2.2 (by decide) (by decide) (by decide), okV R p rfl⟩
    | tup i =>
      obtain ⟨p1, vs, rfl, h1, r1⟩ := ra
      obtain ⟨c, p⟩ := ofO_cond p
      simp only [Bool.and_eq_true, decide_eq_true_eq, Bool.not_eq_true', List.isEmpty_eq_false_iff] at c
      have hl := r1.length
      refine op_repT pins s σ H _ _ v u Q I rx ry ⟨p1, j, vs, rfl, rfl, by rw [hK]; exact sqT_H R h1, fun e => ?_, c.1.1.1, c.1.1.2, by omega, fun q n => ?_⟩
      · rw [e] at hl
        exact c.2 (List.length_eq_zero_iff.mp hl)
      · rw [← repL_eq]
        exact newT R (r1.rep _) p q n
    | str i =>
      obtain ⟨rfl, l1, o1⟩ := ra
      obtain ⟨c, p⟩ := ofO_cond p
      simp only [Bool.and_eq_true, decide_eq_true_eq] at c
      obtain ⟨tx, rfl⟩ := rx
      obtain ⟨ty, rfl⟩ := ry
      have e : Txt.mul (toS i) j = toS (repL i j.toNat) := by
        unfold Txt.mul
        by_cases h1 : j < 1
        · have hj : j.toNat = 0 := by omega
          rw [if_pos h1, hj]
          rfl
        · rw [if_neg h1]
          by_cases h2 : (j == 1 || (toS i).length == 0) = true
          · rw [if_pos h2]
            rcases Bool.or_eq_true_iff.mp h2 with h2 | h2
            · have hj : j = 1 := by simpa using h2
              subst hj
              show _ = toS (i ++ [])
              rw [List.append_nil]
            · have hi : i = [] := by
                have h3 : i.toArray.size = 0 := eq_of_beq h2
                exact List.length_eq_zero_iff.mp (by simpa using h3)
              subst hi
              congr 1
              have : ∀ n, repL ([] : List Nat) n = [] := fun n => by
                induction n with
                | zero => rfl
                | succ n ih => rw [repL, ih]; rfl
              rw [this]
          · rw [if_neg h2]
            show Str.mk _ = Str.mk _
            congr 1
            rw [repL_eq]
            have f0 : ∀ m acc, List.foldl (fun (x1 x2 : Array Nat) => x1 ++ x2) acc (List.replicate m (toS i).cps) = acc ++ ((List.replicate m i).flatten).toArray := fun m => by
              induction m with
              | zero => intro acc; simp
              | succ m ih =>
                intro acc
                rw [List.replicate_succ, List.foldl_cons, ih, List.replicate_succ, List.flatten_cons]
                simp
            rw [f0]
            simp
      have ok : okS (repL i j.toNat) = true := by
        generalize j.toNat = n
        induction n with
        | zero => rfl
        | succ n ih => exact okS_app o1 ih
      refine SB.mul (mulOk_of 1000 1000 (by show i.toArray.size ≤ 1000; simp; omega) (by omega) (by omega) (by decide) (by decide)) fun t' k => ?_
      refine ⟨.str (toS (repL i j.toNat)), H, I.tok _, ⟨_, by rw [e]⟩, okV R p ⟨rfl, ?_, ok⟩⟩
      rw [repL_length, sizeLine_eq]
      have h10 : i.length ≤ 1000 := by omega
      have hj : j.toNat ≤ 1000 := by omega
      exact Nat.le_trans (Nat.mul_le_mul hj h10) (by decide)
    | non => exact key nofun nofun nofun
    | bl _ => exact key nofun nofun nofun
    | lst _ => exact key nofun nofun nofun
    | dct _ _ => exact key nofun nofun nofun
    | set _ => exact key nofun nofun nofun
    | ref _ => exact key nofun nofun nofun
    | obj _ _ _ => exact key nofun nofun nofun
    | scr _ => exact key nofun nofun nofun
  | _ => exact p.elim
def opOf : BOp → Operator
  | .add => .Add
  | .sub => .Sub
  | .mul => .Mult
  | .fdiv => .FloorDiv
  | .mod => .Mod
  | .pow => .Pow
theorem opBin (hK : X.K = W.K) (o : BOp) : OpR X (binaryOp (opOf o)) (r2 W E fun x y h => ofO h (binV h o x y)) := by
  cases o with
  | add => exact opAdd hK
  | sub => exact opSub
  | mul => exact opMul hK
  | fdiv => exact opFdiv
  | mod => exact opMod
  | pow => exact opPow
end
end Z
-- Z6
set_option Elab.async false
set_option linter.all false
set_option maxRecDepth 100000
set_option maxHeartbeats 1000000
/-! Layer Z, part 6: comparisons. -/
namespace Z
open PySem PySem.Spec PyProof.Rows L2
/-! ### data -/
mutual
def toD : PV → PyData
  | .bl b => .bool b
  | .int i => .int i
  | .str x => .str (toS x)
  | .tup xs => .tuple (toDs xs)
  | .lst xs => .list (toDs xs)
  | _ => .none
def toDs : List PV → List PyData
  | [] => []
  | x :: r => toD x :: toDs r
end
mutual
theorem depth_toD : ∀ x : PV, x.isD = true → (toD x).depth = x.depth
  | .non, _ => rfl
  | .bl _, _ => rfl
  | .int _, _ => rfl
  | .str _, _ => rfl
  | .tup xs, h => by
    show PyData.depthAll (toDs xs) + 1 = depths xs + 1
    rw [depth_toDs xs h]
  | .lst xs, h => by
    show PyData.depthAll (toDs xs) + 1 = depths xs + 1
    rw [depth_toDs xs h]
  | .dct _ _, h => by cases h
  | .set _, h => by cases h
  | .ref _, h => by cases h
  | .obj _ _ _, h => by cases h
  | .scr _, h => by cases h
theorem depth_toDs : ∀ xs : List PV, isDs xs = true → PyData.depthAll (toDs xs) = depths xs
  | [], _ => rfl
  | x :: r, h => by
    have h' := Bool.and_eq_true_iff.mp (show (x.isD && isDs r) = true from h)
    show max (toD x).depth (PyData.depthAll (toDs r)) = max x.depth (depths r)
    rw [depth_toD x h'.1, depth_toDs r h'.2]
end
theorem toS_inj {a b : List Nat} : toS a = toS b ↔ a = b := by
  constructor
  · intro h
    have : a.toArray = b.toArray := Str.mk.inj h
    simpa using this
  · intro h
    rw [h]
theorem dec_toS (a b : List Nat) : (toS a == toS b) = decide (a = b) := by
  by_cases h : a = b
  · rw [h]; simp
  · rw [decide_eq_false h]
    simp [toS_inj, h]
mutual
theorem eqv_toD : ∀ x y : PV, x.isD = true → y.isD = true → PyData.eqv (toD x) (toD y) = eqP x y
  | .tup xs, .tup ys, h, k => eqv_toDs xs ys h k
  | .lst xs, .lst ys, h, k => eqv_toDs xs ys h k
  | .str a, .str b, _, _ => dec_toS a b
  | .non, .non, _, _ => rfl
  | .bl a, .bl b, _, _ => rfl
  | .bl a, .int b, _, _ => rfl
  | .int a, .bl b, _, _ => rfl
  | .int a, .int b, _, _ => rfl
  | .non, .bl _, _, _ => rfl
  | .non, .int _, _, _ => rfl
  | .non, .str _, _, _ => rfl
  | .non, .tup _, _, _ => rfl
  | .non, .lst _, _, _ => rfl
  | .bl _, .non, _, _ => rfl
  | .bl _, .str _, _, _ => rfl
  | .bl _, .tup _, _, _ => rfl
  | .bl _, .lst _, _, _ => rfl
  | .int _, .non, _, _ => rfl
  | .int _, .str _, _, _ => rfl
  | .int _, .tup _, _, _ => rfl
  | .int _, .lst _, _, _ => rfl
  | .str _, .non, _, _ => rfl
  | .str _, .bl _, _, _ => rfl
  | .str _, .int _, _, _ => rfl
  | .str _, .tup _, _, _ => rfl
  | .str _, .lst _, _, _ => rfl
  | .tup _, .non, _, _ => rfl
  | .tup _, .bl _, _, _ => rfl
  | .tup _, .int _, _, _ => rfl
  | .tup _, .str _, _, _ => rfl
  | .tup _, .lst _, _, _ => rfl
  | .lst _, .non, _, _ => rfl
  | .lst _, .bl _, _, _ => rfl
  | .lst _, .int _, _, _ => rfl
  | .lst _, .str _, _, _ => rfl
  | .lst _, .tup _, _, _ => rfl
  | .dct _ _, _, h, _ => by cases h
  | .set _, _, h, _ => by cases h
  | .ref _, _, h, _ => by cases h
  | .obj _ _ _, _, h, _ => by cases h
  | .scr _, _, h, _ => by cases h
  | _, .dct _ _, _, h => by cases h
  | _, .set _, _, h => by cases h
  | _, .ref _, _, h => by cases h
  | _, .obj _ _ _, _, h => by cases h
  | _, .scr _, _, h => by cases h
theorem eqv_toDs : ∀ xs ys : List PV, isDs xs = true → isDs ys = true → PyData.eqvAll (toDs xs) (toDs ys) = eqPs xs ys
  | [], [], _, _ => rfl
  | [], _ :: _, _, _ => rfl
  | _ :: _, [], _, _ => rfl
  | x :: r, y :: t, h, k => by
    have h' := Bool.and_eq_true_iff.mp (show (x.isD && isDs r) = true from h)
    have k' := Bool.and_eq_true_iff.mp (show (y.isD && isDs t) = true from k)
    show (PyData.eqv (toD x) (toD y) && PyData.eqvAll (toDs r) (toDs t)) = (eqP x y && eqPs r t)
    rw [eqv_toD x y h'.1 k'.1, eqv_toDs r t h'.2 k'.2]
end
section
variable {W : Sta} {z : Zn} {h : AH} {H : Hp}
theorem strOk_toS {x : List Nat} (o : okS x = true) : PyData.strOk (toS x) = true := by
  unfold PyData.strOk
  unfold okS at o
  simpa using o
mutual
/-- what stands for data is data, for HandS -/
theorem RV.dp (R : RH W z h H) : ∀ (x : PV) (v : V), x.isD = true → RV W z x v → Dp W.K H v (toD x) ∧ (toD x).canLay0 = true
  | .non, _, _, r => by
    cases r
    exact ⟨.non, rfl⟩
  | .bl b, _, _, r => by
    cases r
    exact ⟨.bl b, rfl⟩
  | .int i, _, _, r => by
    cases r
    exact ⟨.int i, rfl⟩
  | .str x, _, _, r => by
    obtain ⟨rfl, _, o⟩ := r
    exact ⟨.str _, strOk_toS o⟩
  | .tup xs, _, d, r => by
    obtain ⟨a, vs, rfl, q, r⟩ := r
    obtain ⟨h1, h2⟩ := RVs.dp R xs vs d r
    exact ⟨.tup (sqT_H R q) h1, h2⟩
  | .lst xs, _, d, r => by
    obtain ⟨a, vs, rfl, q, r⟩ := r
    obtain ⟨h1, h2⟩ := RVs.dp R xs vs d r
    exact ⟨.lst (SqL.of (R.fz _ _ q)) h1, h2⟩
  | .dct _ _, _, d, _ => by cases d
  | .set _, _, d, _ => by cases d
  | .ref _, _, d, _ => by cases d
  | .obj _ _ _, _, d, _ => by cases d
  | .scr _, _, d, _ => by cases d
theorem RVs.dp (R : RH W z h H) : ∀ (xs : List PV) (vs : List V), isDs xs = true → RVs W z xs vs → DpAll W.K H vs (toDs xs) ∧ PyData.canLayAll0 (toDs xs) = true
  | [], vs, _, r => by
    rw [show vs = [] from r]
    exact ⟨.nil, rfl⟩
  | x :: t, _, d, r => by
    obtain ⟨v, us, rfl, r1, r2⟩ := r
    have d' := Bool.and_eq_true_iff.mp (show (x.isD && isDs t) = true from d)
    obtain ⟨h1, h2⟩ := RV.dp R x v d'.1 r1
    obtain ⟨h3, h4⟩ := RVs.dp R t us d'.2 r2
    exact ⟨.cons h1 h3, Bool.and_eq_true_iff.mpr ⟨h2, h4⟩⟩
end
/-- the same of what a reference looks like -/
theorem dpL (R : RH W z h H) {a : PV} {x : V} (d : (look h a).isD = true) (r : RV W z a x) : Dp W.K H x (toD (look h a)) ∧ (toD (look h a)).canLay0 = true := by
  cases a with
  | ref i =>
    unfold look at d ⊢
    simp only at d ⊢
    cases e : h[i]? with
    | none =>
      rw [e] at d
      cases d
    | some m =>
      rw [e] at d
      cases m with
      | lst xs =>
        obtain ⟨p, _, rfl, vs, q, r⟩ := refMO R r e
        obtain ⟨h1, h2⟩ := RVs.dp R xs vs d r
        exact ⟨.lst (SqL.of q) h1, h2⟩
      | dct _ _ => cases d
      | ins _ _ _ => cases d
  | _ => exact RV.dp R _ x d r
end
section
variable {X : Cx} {W : Sta} {E : XK}
theorem ofO_map {α β : Type} {z : Zn} {h : AH} {o : Option α} {f : α → β} {K : Zn → β → AH → Hp → Prop} (p : Post W z E (ofO h (o.map f)) K) : ∃ a, o = some a ∧ Post W z E (.ok (f a) h) K := by
  cases o with
  | none => exact p.elim
  | some a => exact ⟨a, rfl, p⟩
theorem ocond_some {α : Type} {c : Bool} {a b : α} (h : ocond c a = some b) : c = true ∧ a = b := by
  cases c with
  | true => exact ⟨rfl, Option.some.inj h⟩
  | false => cases h
/-- two data compare -/
theorem eqAt_Z {pins : List (Addr × Obj)} {s : Shared} {σ : L2.St} {H : Hp} {z : Zn} {h : AH} {a b : PV} {x y : V} {v u : Value} (hK : X.K = W.K) (I : Inv X pins σ H s) (R : RH W z h H) (ra : RV W z a x) (rb : RV W z b y) (rx : RelV x v) (ry : RelV y u)
    {k : Bool} (e : eqV h a b = some k) {A : Around} (hu : A.units + 64 < cLine) : ∃ da db as bs, Reads s.heap v da as ∧ Reads s.heap u db bs ∧ da.canLay0 = true ∧ db.canLay0 = true ∧ A.units + min da.depth db.depth < cLine ∧ PyData.eqv da db = k := by
  obtain ⟨c, e⟩ := ocond_some e
  simp only [Bool.and_eq_true, decide_eq_true_eq] at c
  obtain ⟨h1, l1⟩ := dpL R c.1.1 ra
  obtain ⟨h2, l2⟩ := dpL R c.1.2 rb
  rw [← hK] at h1 h2
  obtain ⟨as, r1⟩ := Dp.reads I _ _ _ h1 rx
  obtain ⟨bs, r2⟩ := Dp.reads I _ _ _ h2 ry
  refine ⟨_, _, as, bs, r1, r2, l1, l2, ?_, ?_⟩
  · rw [depth_toD _ c.1.1, depth_toD _ c.1.2]
    omega
  · rw [eqv_toD _ _ c.1.1 c.1.2, e]
def cmpOf : COp → CmpOp
  | .eq => .Eq
  | .ne => .NotEq
  | .lt => .Lt
  | .le => .LtE
  | .gt => .Gt
  | .ge => .GtE
  | .is => .Is
  | .isn => .IsNot
  | .isin => .In
  | .nin => .NotIn
theorem cmpEq (hK : X.K = W.K) (hu : X.A.units + 64 < cLine) : OpR X (compareOp .Eq) (r2 W E fun x y h => ofO h ((cmpV h .eq x y).map .bl)) := by
  intro pins s σ H x y v u Q I rx ry ⟨z, a, b, h, ra, rb, R, p⟩
  obtain ⟨k, e, p⟩ := ofO_map p
  obtain ⟨da, db, as, bs, r1, r2, l1, l2, d, q⟩ := eqAt_Z hK I R ra rb rx ry e hu
  refine SeqAt.compareEq_reads r1 r2 l1 l2 d ?_
  rw [q]
  exact ⟨.bl k, H, I, rfl, okV R p rfl⟩
theorem cmpNe (hK : X.K = W.K) (hu : X.A.units + 64 < cLine) : OpR X (compareOp .NotEq) (r2 W E fun x y h => ofO h ((cmpV h .ne x y).map .bl)) := by
  intro pins s σ H x y v u Q I rx ry ⟨z, a, b, h, ra, rb, R, p⟩
  obtain ⟨k, e, p⟩ := ofO_map p
  have e' : (eqV h a b).map (!·) = some k := e
  cases e2 : eqV h a b with
  | none =>
    rw [e2] at e'
    cases e'
  | some j =>
    rw [e2] at e'
    have e3 : (!j) = k := Option.some.inj e'
    obtain ⟨da, db, as, bs, r1, r2, l1, l2, d, q⟩ := eqAt_Z hK I R ra rb rx ry e2 hu
    refine SeqAt.compareNe_reads r1 r2 l1 l2 d ?_
    rw [q, e3]
    exact ⟨.bl k, H, I, rfl, okV R p rfl⟩
theorem lt_toS (a b : List Nat) : ((toS a).cps.toList < (toS b).cps.toList) = (a < b) := by simp
theorem cmpLt : OpR X (compareOp .Lt) (r2 W E fun x y h => ofO h ((cmpV h .lt x y).map .bl)) := by
  intro pins s σ H x y v u Q I rx ry ⟨z, a, b, h, ra, rb, R, p⟩
  obtain ⟨k, e, p2⟩ := ofO_map p
  cases a with
  | int i =>
    cases b with
    | int j =>
      cases ra
      cases rb
      have e := Option.some.inj (show some (decide (i < j)) = some k from e)
      exact op_lt pins s σ H _ _ v u Q I rx ry ⟨i, j, rfl, rfl, by show Q (.bl (decide (i < j))) H; rw [e]; exact okV R p2 rfl⟩
    | _ => cases e
  | str i =>
    cases b with
    | str j =>
      obtain ⟨rfl, _⟩ := ra
      obtain ⟨rfl, _⟩ := rb
      have e := Option.some.inj (show some (decide (i < j)) = some k from e)
      exact op_lt_str pins s σ H _ _ v u Q I rx ry ⟨_, _, rfl, rfl, by simp only [lt_toS]; rw [e]; exact okV R p2 rfl⟩
    | _ => cases e
  | _ => cases e
theorem cmpGt : OpR X (compareOp .Gt) (r2 W E fun x y h => ofO h ((cmpV h .gt x y).map .bl)) := by
  intro pins s σ H x y v u Q I rx ry ⟨z, a, b, h, ra, rb, R, p⟩
  obtain ⟨k, e, p2⟩ := ofO_map p
  cases b with
  | int i =>
    cases a with
    | int j =>
      cases ra
      cases rb
      have e := Option.some.inj (show some (decide (i < j)) = some k from e)
      exact op_gt pins s σ H _ _ v u Q I rx ry ⟨j, i, rfl, rfl, by show Q (.bl (decide (i < j))) H; rw [e]; exact okV R p2 rfl⟩
    | _ => cases e
  | str i =>
    cases a with
    | str j =>
      obtain ⟨rfl, _⟩ := ra
      obtain ⟨rfl, _⟩ := rb
      have e := Option.some.inj (show some (decide (i < j)) = some k from e)
      exact op_gt_str pins s σ H _ _ v u Q I rx ry ⟨_, _, rfl, rfl, by simp only [lt_toS]; rw [e]; exact okV R p2 rfl⟩
    | _ => cases e
  | _ => cases e
theorem cmpLe : OpR X (compareOp .LtE) (r2 W E fun x y h => ofO h ((cmpV h .le x y).map .bl)) := by
  intro pins s σ H x y v u Q I rx ry ⟨z, a, b, h, ra, rb, R, p⟩
  obtain ⟨k, e, p2⟩ := ofO_map p
  cases a with
  | int i =>
    cases b with
    | int j =>
      cases ra
      cases rb
      have e := Option.some.inj (show some (decide (i ≤ j)) = some k from e)
      exact op_le pins s σ H _ _ v u Q I rx ry ⟨i, j, rfl, rfl, by show Q (.bl (decide (i ≤ j))) H; rw [e]; exact okV R p2 rfl⟩
    | _ => cases e
  | str i =>
    cases b with
    | str j =>
      obtain ⟨rfl, _⟩ := ra
      obtain ⟨rfl, _⟩ := rb
      have e := Option.some.inj (show some (!decide (j < i)) = some k from e)
      exact op_le_str pins s σ H _ _ v u Q I rx ry ⟨_, _, rfl, rfl, by simp only [lt_toS]; rw [e]; exact okV R p2 rfl⟩
    | _ => cases e
  | _ => cases e
theorem cmpGe : OpR X (compareOp .GtE) (r2 W E fun x y h => ofO h ((cmpV h .ge x y).map .bl)) := by
  intro pins s σ H x y v u Q I rx ry ⟨z, a, b, h, ra, rb, R, p⟩
  obtain ⟨k, e, p2⟩ := ofO_map p
  cases b with
  | int i =>
    cases a with
    | int j =>
      cases ra
      cases rb
      have e := Option.some.inj (show some (decide (i ≤ j)) = some k from e)
      exact op_ge pins s σ H _ _ v u Q I rx ry ⟨j, i, rfl, rfl, by show Q (.bl (decide (i ≤ j))) H; rw [e]; exact okV R p2 rfl⟩
    | _ => cases e
  | str i =>
    cases a with
    | str j =>
      obtain ⟨rfl, _⟩ := ra
      obtain ⟨rfl, _⟩ := rb
      have e := Option.some.inj (show some (!decide (j < i)) = some k from e)
      exact op_ge_str pins s σ H _ _ v u Q I rx ry ⟨_, _, rfl, rfl, by simp only [lt_toS]; rw [e]; exact okV R p2 rfl⟩
    | _ => cases e
  | _ => cases e
/-! ### is -/
theorem isV_non {z : Zn} {h : AH} {H : Hp} {a : PV} {x : V} (R : RH W z h H) (r : RV W z a x) : decide (a = .non) = decide (x = .non) := by
  cases a with
  | non => cases r; rfl
  | bl _ => cases r; rfl
  | int _ => cases r; rfl
  | str _ => obtain ⟨rfl, _⟩ := r; rfl
  | tup _ => obtain ⟨p, _, rfl, _⟩ := r; rfl
  | lst _ => obtain ⟨p, _, rfl, _⟩ := r; rfl
  | scr _ => obtain ⟨p, _, rfl, _⟩ := r; rfl
  | ref _ => obtain ⟨p, _, rfl⟩ := r; rfl
  | obj _ _ _ => obtain ⟨p, _, _, rfl, _⟩ := r; rfl
  | dct _ _ =>
    obtain ⟨a, kvs, rfl, _⟩ := r
    rfl
  | set _ => exact r.elim
theorem cmpIs : OpR X (compareOp .Is) (r2 W E fun x y h => ofO h ((cmpV h .is x y).map .bl)) := by
  intro pins s σ H x y v u Q I rx ry ⟨z, a, b, h, ra, rb, R, p⟩
  obtain ⟨k, e, p2⟩ := ofO_map p
  cases b with
  | non =>
    cases rb
    have e := Option.some.inj (show some (decide (a = .non)) = some k from e)
    exact op_isN pins s σ H _ _ v u Q I rx ry ⟨rfl, by rw [← isV_non R ra, e]; exact okV R p2 rfl⟩
  | bl c =>
    cases a with
    | bl d =>
      cases ra
      cases rb
      have e := Option.some.inj (show some (decide (d = c)) = some k from e)
      exact op_is_bl pins s σ H _ _ v u Q I rx ry ⟨d, c, rfl, rfl, by rw [e]; exact okV R p2 rfl⟩
    | _ => cases e
  | _ => cases e
theorem cmpIsn : OpR X (compareOp .IsNot) (r2 W E fun x y h => ofO h ((cmpV h .isn x y).map .bl)) := by
  intro pins s σ H x y v u Q I rx ry ⟨z, a, b, h, ra, rb, R, p⟩
  obtain ⟨k, e, p2⟩ := ofO_map p
  cases b with
  | non =>
    cases rb
    have e := Option.some.inj (show some (!decide (a = .non)) = some k from e)
    exact op_notN pins s σ H _ _ v u Q I rx ry ⟨rfl, by rw [← isV_non R ra, e]; exact okV R p2 rfl⟩
  | bl c =>
    cases a with
    | bl d =>
      cases ra
      cases rb
      have e := Option.some.inj (show some (!decide (d = c)) = some k from e)
      exact op_isnot_bl pins s σ H _ _ v u Q I rx ry ⟨d, c, rfl, rfl, by rw [e]; exact okV R p2 rfl⟩
    | _ => cases e
  | _ => cases e
/-! ### in -/
open Classical in
/-- what an item answers, read off the heap -/
noncomputable def eOf (h : Heap) (dx : PyData) (u : Value) : Bool := if q : ∃ d as, Reads h u d as ∧ d.canLay0 = true then PyData.eqv (choose q) dx else false
theorem eOf_eq {h : Heap} {dx d : PyData} {u : Value} {as : List Addr} (r : Reads h u d as) (l : d.canLay0 = true) : eOf h dx u = PyData.eqv d dx := by
  have q : ∃ d as, Reads h u d as ∧ d.canLay0 = true := ⟨d, as, r, l⟩
  unfold eOf
  rw [dif_pos q]
  obtain ⟨as', r', l'⟩ := Classical.choose_spec q
  rw [SeqAt.Reads.unique _ _ u as' as l' r' r]
theorem inAt {pins : List (Addr × Obj)} {s : Shared} {σ : L2.St} {H : Hp} {z : Zn} {h : AH} {a : PV} {x : V} {v : Value} (hK : X.K = W.K) (I : Inv X pins σ H s) (R : RH W z h H) (ra : RV W z a x) (rx : RelV x v) (d : (look h a).isD = true)
    {A : Around} : ∀ {ys : List PV} {vs : List V} {us : List Value}, isDs ys = true → RVs W z ys vs → Vals vs us → A.units + min (look h a).depth (depths ys) < cLine →
      (∀ w ∈ us, SeqAt.EqAt A s w v (eOf s.heap (toD (look h a)) w)) ∧ us.any (eOf s.heap (toD (look h a))) = ys.any fun y => eqP y (look h a)
  | [], vs, us, _, r, rv, _ => by
    rw [show vs = [] from r] at rv
    cases rv
    exact ⟨fun w e => by simp at e, rfl⟩
  | y :: t, _, _, dy, r, rv, hu => by
    obtain ⟨v1, vt, rfl, r1, r2⟩ := r
    cases rv with
    | cons q qs =>
      rename_i u1 ut
      have d' := Bool.and_eq_true_iff.mp (show (y.isD && isDs t) = true from dy)
      have hm : depths (y :: t) = max y.depth (depths t) := rfl
      obtain ⟨h2, h3⟩ := inAt hK I R ra rx d (A := A) d'.2 r2 qs (by omega)
      obtain ⟨g1, l1⟩ := dpL R d ra
      obtain ⟨g2, l2⟩ := RV.dp R y v1 d'.1 r1
      rw [← hK] at g1 g2
      obtain ⟨as, k1⟩ := Dp.reads I _ _ _ g1 rx
      obtain ⟨bs, k2⟩ := Dp.reads I _ _ _ g2 q
      have ea := SeqAt.eqAt_reads _ _ A s u1 v bs as k2 k1 l2 l1 (by rw [depth_toD _ d'.1, depth_toD _ d]; omega)
      have eu : eOf s.heap (toD (look h a)) u1 = eqP y (look h a) := by rw [eOf_eq k2 l2, eqv_toD _ _ d'.1 d]
      refine ⟨fun w hw => ?_, by rw [List.any_cons, List.any_cons, h3, eu]⟩
      rcases List.mem_cons.mp hw with e | hw
      · rw [e, eOf_eq k2 l2]
        exact ea
      · exact h2 w hw
theorem contains_dec (b : List Nat) (c : Nat) : b.contains c = decide (c ∈ (toS b).cps.toList) := by
  simp
/-- where a membership is asked of a list or tuple -/
theorem inSeq {pins : List (Addr × Obj)} {s : Shared} {σ : L2.St} {H : Hp} {z : Zn} {h : AH} {a b : PV} {x y : V} {v u : Value} {ys : List PV} {k : Bool} (hK : X.K = W.K) (hu : X.A.units + 64 < cLine) (I : Inv X pins σ H s) (R : RH W z h H) (ra : RV W z a x) (rb : RV W z b y) (rx : RelV x v) (ry : RelV y u)
    (es : seqOf h b = some ys) (e : ocond ((look h a).isD && isDs ys && decide (min (look h a).depth (depths ys) ≤ 60)) (ys.any fun w => eqP w (look h a)) = some k) :
    (∀ Q : Value → Shared → Prop, Q (.bool k) s → wpAny (model X.prog X.w) X.A (compareOp .In v u) Q X.xe s) ∧ (∀ Q : Value → Shared → Prop, Q (.bool !k) s → wpAny (model X.prog X.w) X.A (compareOp .NotIn v u) Q X.xe s) := by
  obtain ⟨c, e⟩ := ocond_some e
  simp only [Bool.and_eq_true, decide_eq_true_eq] at c
  obtain ⟨p, vs, rfl, hq, r⟩ := lkSq R rb es
  cases ry
  rw [← hK] at hq
  have room : X.A.in1.units + min (look h a).depth (depths ys) < cLine := by
    show X.A.units + 1 + _ < cLine
    omega
  rcases hq with hq | hq
  · obtain ⟨its, rv, pl, _⟩ := I.list hq
    obtain ⟨h1, h2⟩ := inAt hK I R ra rx c.1.1 (A := X.A.in1) c.1.2 r rv room
    have h3 : its.toArray.any (eOf s.heap (toD (look h a))) = k := by rw [List.any_toArray, h2, e]
    exact ⟨fun Q q => SeqAt.in_listAt _ pl.isList (fun w hw => h1 w (by simpa using hw)) (by rw [h3]; exact q), fun Q q => SeqAt.notIn_listAt _ pl.isList (fun w hw => h1 w (by simpa using hw)) (by rw [h3]; exact q)⟩
  · obtain ⟨its, rv, pl, _⟩ := I.tuple hq
    obtain ⟨h1, h2⟩ := inAt hK I R ra rx c.1.1 (A := X.A.in1) c.1.2 r rv room
    have h3 : its.toArray.any (eOf s.heap (toD (look h a))) = k := by rw [List.any_toArray, h2, e]
    exact ⟨fun Q q => SeqAt.in_tupleAt _ pl (fun w hw => h1 w (by simpa using hw)) (by rw [h3]; exact q), fun Q q => SeqAt.notIn_tupleAt _ pl (fun w hw => h1 w (by simpa using hw)) (by rw [h3]; exact q)⟩
end
end Z
-- Z7
set_option Elab.async false
set_option linter.all false
set_option maxRecDepth 100000
set_option maxHeartbeats 1000000
/-! Layer Z, part 7: membership, truth. -/
namespace Z
open PySem PySem.Spec PyProof.Rows L2
section
variable {X : Cx} {W : Sta} {E : XK}
/-! ### dicts whose keys are ints and texts -/
theorem lkD {z : Zn} {h : AH} {H : Hp} {b : PV} {y : V} {q : List PV × List PV} (R : RH W z h H) (rb : RV W z b y) (e : dctOf h b = some q) :
    ∃ p kvs, y = .ref p ∧ H p = some (.dK kvs) ∧ (kvs.map (·.1)).Nodup ∧ RVs W z q.1 (kvs.map fun q => L2.kV q.1) ∧ RVs W z q.2 (kvs.map (·.2)) := by
  cases b with
  | dct ks vs =>
    cases e
    obtain ⟨a, kvs, rfl, h1, h2, h3, h4⟩ := rb
    exact ⟨a, kvs, rfl, R.fz _ _ h1, h2, h3, h4⟩
  | ref i =>
    unfold dctOf at e
    simp only at e
    split at e
    · rename_i ks vs hm
      cases e
      obtain ⟨p, _, rfl, kvs, h1, h2, h3, h4⟩ := refMO R rb hm
      exact ⟨p, kvs, rfl, h1, h2, h3, h4⟩
    · cases e
  | _ => cases e
theorem keyV {z : Zn} {a : PV} {x : V} (r : RV W z a x) (k : keyOk a = true) : ∃ kk : Key, x = L2.kV kk ∧ ∀ b y, RV W z b (L2.kV y) → eqP b a = decide (y = kk) := by
  cases a with
  | int i =>
    refine ⟨.inl i, r, fun b y rb => ?_⟩
    cases y with
    | inl j =>
      cases b with
      | int j' =>
        cases rb
        show (j == i) = decide _
        by_cases q : j = i
        · subst q
          simp
        · simp [q]
      | str _ =>
        obtain ⟨e, _⟩ := rb
        cases e
      | tup _ =>
        obtain ⟨_, _, e, _⟩ := rb
        cases e
      | lst _ =>
        obtain ⟨_, _, e, _⟩ := rb
        cases e
      | scr _ =>
        obtain ⟨_, _, e, _⟩ := rb
        cases e
      | ref _ =>
        obtain ⟨_, _, e⟩ := rb
        cases e
      | dct _ _ =>
        obtain ⟨_, _, e, _⟩ := rb
        cases e
      | set _ => exact rb.elim
      | obj _ _ _ =>
        obtain ⟨_, _, _, e, _⟩ := rb
        cases e
      | non => cases rb
      | bl _ => cases rb
    | inr s =>
      cases b with
      | str t => simp [eqP]
      | int _ => cases rb
      | tup _ =>
        obtain ⟨_, _, e, _⟩ := rb
        cases e
      | lst _ =>
        obtain ⟨_, _, e, _⟩ := rb
        cases e
      | scr _ =>
        obtain ⟨_, _, e, _⟩ := rb
        cases e
      | ref _ =>
        obtain ⟨_, _, e⟩ := rb
        cases e
      | dct _ _ =>
        obtain ⟨_, _, e, _⟩ := rb
        cases e
      | set _ => exact rb.elim
      | obj _ _ _ =>
        obtain ⟨_, _, _, e, _⟩ := rb
        cases e
      | non => cases rb
      | bl _ => cases rb
  | str x =>
    obtain ⟨rfl, _, _⟩ := r
    refine ⟨.inr (toS x), rfl, fun b y rb => ?_⟩
    cases y with
    | inl j =>
      cases b with
      | int j' => simp [eqP]
      | str _ =>
        obtain ⟨e, _⟩ := rb
        cases e
      | tup _ =>
        obtain ⟨_, _, e, _⟩ := rb
        cases e
      | lst _ =>
        obtain ⟨_, _, e, _⟩ := rb
        cases e
      | scr _ =>
        obtain ⟨_, _, e, _⟩ := rb
        cases e
      | ref _ =>
        obtain ⟨_, _, e⟩ := rb
        cases e
      | dct _ _ =>
        obtain ⟨_, _, e, _⟩ := rb
        cases e
      | set _ => exact rb.elim
      | obj _ _ _ =>
        obtain ⟨_, _, _, e, _⟩ := rb
        cases e
      | non => cases rb
      | bl _ => cases rb
    | inr s =>
      cases b with
      | str t =>
        obtain ⟨e, _⟩ := rb
        have e' : s = toS t := V.str.inj e
        subst e'
        show decide (t = x) = decide _
        by_cases q : t = x
        · subst q
          simp
        · have : ¬ (Sum.inr (toS t) : Key) = Sum.inr (toS x) := fun e => q (toS_inj.mp (Sum.inr.inj e))
          simp [q, this]
      | int _ => cases rb
      | tup _ =>
        obtain ⟨_, _, e, _⟩ := rb
        cases e
      | lst _ =>
        obtain ⟨_, _, e, _⟩ := rb
        cases e
      | scr _ =>
        obtain ⟨_, _, e, _⟩ := rb
        cases e
      | ref _ =>
        obtain ⟨_, _, e⟩ := rb
        cases e
      | dct _ _ =>
        obtain ⟨_, _, e, _⟩ := rb
        cases e
      | set _ => exact rb.elim
      | obj _ _ _ =>
        obtain ⟨_, _, _, e, _⟩ := rb
        cases e
      | non => cases rb
      | bl _ => cases rb
  | _ => cases k
theorem getK_ok {z : Zn} {a : PV} {kk : Key} (hk : ∀ b y, RV W z b (L2.kV y) → eqP b a = decide (y = kk)) : ∀ {kvs : List (Key × V)} {ks vs : List PV}, RVs W z ks (kvs.map fun q => L2.kV q.1) → RVs W z vs (kvs.map (·.2)) →
    (∀ pv, getK a ks vs = some pv → ∃ v, valV kvs kk = some v ∧ RV W z pv v) ∧ (getK a ks vs = none → valV kvs kk = none) ∧ (ks.any fun b => eqP b a) = (valV kvs kk).isSome
  | [], ks, vs, r1, r2 => by
    cases ks with
    | nil =>
      refine ⟨fun pv e => ?_, fun _ => rfl, rfl⟩
      unfold getK at e
      cases e
    | cons b ks =>
      obtain ⟨_, _, e, _⟩ := r1
      cases e
  | kv :: r, ks, vs, r1, r2 => by
    cases ks with
    | nil => cases r1
    | cons b ks =>
      cases vs with
      | nil => cases r2
      | cons w vs =>
        obtain ⟨v1, t1, e1, q1, q2⟩ := r1
        obtain ⟨v2, t2, e2, q3, q4⟩ := r2
        cases e1
        cases e2
        obtain ⟨i1, i2, i3⟩ := getK_ok hk (kvs := r) q2 q4
        have hb := hk b kv.1 q1
        by_cases q : kv.1 = kk
        · rw [decide_eq_true q] at hb
          refine ⟨fun pv e => ?_, fun e => ?_, ?_⟩
          · unfold getK at e
            rw [if_pos hb] at e
            cases e
            exact ⟨kv.2, valV_pos q, q3⟩
          · unfold getK at e
            rw [if_pos hb] at e
            cases e
          · rw [List.any_cons, hb, valV_pos q]
            rfl
        · rw [decide_eq_false q] at hb
          have hb' : ¬ eqP b a = true := by rw [hb]; decide
          refine ⟨fun pv e => ?_, fun e => ?_, ?_⟩
          · unfold getK at e
            rw [if_neg hb'] at e
            rw [valV_neg q]
            exact i1 pv e
          · unfold getK at e
            rw [if_neg hb'] at e
            rw [valV_neg q]
            exact i2 e
          · rw [List.any_cons, hb, valV_neg q, Bool.false_or]
            exact i3
theorem dgetV {z : Zn} {h : AH} {H : Hp} {b : PV} {y : V} {q : List PV × List PV} {a : PV} {x : V} (R : RH W z h H) (rb : RV W z b y) (e : dctOf h b = some q) (ra : RV W z a x) (k : keyOk a = true) :
    ∃ p o, y = .ref p ∧ DGet H p x o ∧ (∀ pv, getK a q.1 q.2 = some pv → ∃ v, o = some v ∧ RV W z pv v) ∧ (getK a q.1 q.2 = none → o = none) ∧ (q.1.any fun b => eqP b a) = o.isSome := by
  obtain ⟨p, kvs, rfl, h1, h2, h3, h4⟩ := lkD R rb e
  obtain ⟨kk, rfl, hk⟩ := keyV ra k
  obtain ⟨g1, g2, g3⟩ := getK_ok hk h3 h4
  exact ⟨p, _, rfl, DGet.k h1, g1, g2, g3⟩
theorem cmpIn (hK : X.K = W.K) (hu : X.A.units + 64 < cLine) : OpR X (compareOp .In) (r2 W E fun x y h => ofO h ((cmpV h .isin x y).map .bl)) := by
  intro pins s σ H x y v u Q I rx ry ⟨z, a, b, h, ra, rb, R, p⟩
  obtain ⟨k, e, p2⟩ := ofO_map p
  have e : inV h a b = some k := e
  have key : (∀ t, b ≠ .str t) → (∀ t, b ≠ .set t) → wpAny (model X.prog X.w) X.A (compareOp .In v u) (EP X pins σ Q) X.xe s := fun n1 n2 => by
    have e2 : (match dctOf h b with
      | some (ks, _) => ocond (keyOk a) (ks.any fun z => eqP z a)
      | none => match seqOf h b with
        | some ys => ocond ((look h a).isD && isDs ys && decide (min (look h a).depth (depths ys) ≤ 60)) (ys.any fun z => eqP z (look h a))
        | none => none) = some k := by
      cases b with
      | str t => exact absurd rfl (n1 t)
      | set t => exact absurd rfl (n2 t)
      | _ => exact e
    cases ed : dctOf h b with
    | some q =>
      rw [ed] at e2
      obtain ⟨kc, rfl⟩ := ocond_some e2
      obtain ⟨p, o, rfl, dg, _, _, an⟩ := dgetV R rb ed ra kc
      cases (show u = Value.ref p from ry)
      exact d_in (by omega) I dg rx fun s' I' => ⟨.bl o.isSome, H, I', rfl, by rw [← an]; exact okV R p2 rfl⟩
    | none =>
      rw [ed] at e2
      simp only at e2
      cases es : seqOf h b with
      | none =>
        rw [es] at e2
        cases e2
      | some ys =>
        rw [es] at e2
        exact (inSeq hK hu I R ra rb rx ry es e2).1 _ ⟨.bl k, H, I, rfl, okV R p2 rfl⟩
  cases b with
  | str t =>
    cases a with
    | str c =>
      obtain ⟨rfl, _⟩ := ra
      obtain ⟨rfl, _⟩ := rb
      match c, e, rx with
      | [c], e, rx =>
        have e := Option.some.inj (show some (t.contains c) = some k from e)
        exact op_in_sign pins s σ H _ _ v u Q I rx ry ⟨c, toS t, rfl, rfl, by rw [← contains_dec, e]; exact okV R p2 rfl⟩
      | [], e, _ => cases e
      | _ :: _ :: _, e, _ => cases e
    | _ => cases e
  | set t => exact rb.elim
  | non => exact key nofun nofun
  | bl _ => exact key nofun nofun
  | int _ => exact key nofun nofun
  | tup _ => exact key nofun nofun
  | lst _ => exact key nofun nofun
  | dct _ _ => exact key nofun nofun
  | ref _ => exact key nofun nofun
  | obj _ _ _ => exact key nofun nofun
  | scr _ => exact key nofun nofun
theorem cmpNin (hK : X.K = W.K) (hu : X.A.units + 64 < cLine) : OpR X (compareOp .NotIn) (r2 W E fun x y h => ofO h ((cmpV h .nin x y).map .bl)) := by
  intro pins s σ H x y v u Q I rx ry ⟨z, a, b, h, ra, rb, R, p⟩
  obtain ⟨k, e9, p2⟩ := ofO_map p
  have e0 : (inV h a b).map (!·) = some k := e9
  clear e9
  cases e : inV h a b with
  | none =>
    rw [e] at e0
    cases e0
  | some j =>
  rw [e] at e0
  have e1 : (!j) = k := Option.some.inj e0
  subst e1
  have key : (∀ t, b ≠ .str t) → (∀ t, b ≠ .set t) → wpAny (model X.prog X.w) X.A (compareOp .NotIn v u) (EP X pins σ Q) X.xe s := fun n1 n2 => by
    have e2 : (match dctOf h b with
      | some (ks, _) => ocond (keyOk a) (ks.any fun z => eqP z a)
      | none => match seqOf h b with
        | some ys => ocond ((look h a).isD && isDs ys && decide (min (look h a).depth (depths ys) ≤ 60)) (ys.any fun z => eqP z (look h a))
        | none => none) = some j := by
      cases b with
      | str t => exact absurd rfl (n1 t)
      | set t => exact absurd rfl (n2 t)
      | _ => exact e
    cases ed : dctOf h b with
    | some q =>
      rw [ed] at e2
      obtain ⟨kc, rfl⟩ := ocond_some e2
      obtain ⟨p, o, rfl, dg, _, _, an⟩ := dgetV R rb ed ra kc
      cases (show u = Value.ref p from ry)
      exact d_notIn (by omega) I dg rx fun s' I' => ⟨.bl (!o.isSome), H, I', rfl, by rw [← an]; exact okV R p2 rfl⟩
    | none =>
      rw [ed] at e2
      simp only at e2
      cases es : seqOf h b with
      | none =>
        rw [es] at e2
        cases e2
      | some ys =>
        rw [es] at e2
        exact (inSeq hK hu I R ra rb rx ry es e2).2 _ ⟨.bl _, H, I, rfl, okV R p2 rfl⟩
  cases b with
  | str t =>
    cases a with
    | str c =>
      obtain ⟨rfl, _⟩ := ra
      obtain ⟨rfl, _⟩ := rb
      match c, e, rx with
      | [c], e, rx =>
        have e := Option.some.inj (show some (t.contains c) = some j from e)
        exact op_notIn_sign pins s σ H _ _ v u Q I rx ry ⟨c, toS t, rfl, rfl, by rw [← contains_dec, e]; exact okV R p2 rfl⟩
      | [], e, _ => cases e
      | _ :: _ :: _, e, _ => cases e
    | _ => cases e
  | set t => exact rb.elim
  | non => exact key nofun nofun
  | bl _ => exact key nofun nofun
  | int _ => exact key nofun nofun
  | tup _ => exact key nofun nofun
  | lst _ => exact key nofun nofun
  | dct _ _ => exact key nofun nofun
  | ref _ => exact key nofun nofun
  | obj _ _ _ => exact key nofun nofun
  | scr _ => exact key nofun nofun
theorem opCmp (hK : X.K = W.K) (hu : X.A.units + 64 < cLine) (o : COp) : OpR X (compareOp (cmpOf o)) (r2 W E fun x y h => ofO h ((cmpV h o x y).map .bl)) := by
  cases o with
  | eq => exact cmpEq hK hu
  | ne => exact cmpNe hK hu
  | lt => exact cmpLt
  | le => exact cmpLe
  | gt => exact cmpGt
  | ge => exact cmpGe
  | is => exact cmpIs
  | isn => exact cmpIsn
  | isin => exact cmpIn hK hu
  | nin => exact cmpNin hK hu
/-! ### truth -/
theorem isEmpty_V {z : Zn} {xs : List PV} {vs : List V} (r : RVs W z xs vs) : xs.isEmpty = vs.isEmpty := by
  cases xs with
  | nil => rw [show vs = [] from r]; rfl
  | cons x t =>
    obtain ⟨v, us, rfl, _⟩ := r
    rfl
theorem truV {z : Zn} {h : AH} {H : Hp} {a : PV} {x : V} {k : Bool} (R : RH W z h H) (r : RV W z a x) (e : tru h a = some k) : TruV W.K x H k := by
  cases a with
  | non =>
    cases r
    exact (Option.some.inj e).symm
  | bl b =>
    cases r
    exact (Option.some.inj e).symm
  | int i =>
    cases r
    exact (Option.some.inj e).symm
  | str t =>
    obtain ⟨rfl, l, _⟩ := r
    have e := Option.some.inj (show some (!t.isEmpty) = some k from e)
    refine ⟨by show t.toArray.size ≤ _; simpa using l, ?_⟩
    rw [← e]
    show (!t.isEmpty) = (((t.toArray.size : Nat) : Int) != 0)
    cases t with
    | nil => rfl
    | cons c r =>
      have h1 : (((c :: r).toArray.size : Nat) : Int) ≠ 0 := by simp; omega
      simp [bne, h1]
      omega
  | tup xs =>
    obtain ⟨p, vs, rfl, q, r⟩ := r
    have e := Option.some.inj (show some (!xs.isEmpty) = some k from e)
    exact .inr (.inl ⟨vs, sqT_H R q, by rw [← e, isEmpty_V r]⟩)
  | lst xs =>
    obtain ⟨p, vs, rfl, q, r⟩ := r
    have e := Option.some.inj (show some (!xs.isEmpty) = some k from e)
    exact .inl ⟨vs, SqL.of (R.fz _ _ q), by rw [← e, isEmpty_V r]⟩
  | ref i =>
    unfold tru at e
    simp only at e
    split at e
    · rename_i xs hm
      obtain ⟨p, _, rfl, vs, q, r⟩ := refMO R r hm
      exact .inl ⟨vs, SqL.of q, by rw [← Option.some.inj e, isEmpty_V r]⟩
    · rename_i ks ws hm
      obtain ⟨_, _, rfl, kvs, f1, _, f3, _⟩ := refMO R r hm
      refine .inr (.inr ⟨kvs, f1, ?_⟩)
      rw [← Option.some.inj e, isEmpty_V f3]
      cases kvs <;> rfl
    · cases e
  | dct ks ws =>
    obtain ⟨p, kvs, rfl, f1, _, f3, _⟩ := r
    have e := Option.some.inj (show some (!ks.isEmpty) = some k from e)
    refine .inr (.inr ⟨kvs, R.fz _ _ f1, ?_⟩)
    rw [← e, isEmpty_V f3]
    cases kvs <;> rfl
  | set _ => exact r.elim
  | obj _ _ _ => cases e
  | scr _ => cases e
/-- a test by its value -/
def tstR (f : Env → AH → Res PV) : Env → AH → Res Bool := fun ρ h => (f ρ h).bnd fun v h1 => ofO h1 (tru h1 v)
theorem ptTruth (hK : X.K = W.K) {e : Expr} {f : Env → AH → Res PV} (hp : PE X e (tE W E f)) (he : ∀ whole, isTrue e X.env whole = (do let v ← whole; standAt e.pos; holding [v] (truthy v))) : PT X e (tT W E (tstR f)) := by
  refine (pt_truth hp he).imp fun σ H Q ⟨z, ρ, h, re, rh, p⟩ => ?_
  refine ⟨z, ρ, h, re, rh, p.bnd.imp fun z1 a h1 H1 l1 R1 p1 v1 rv1 => ?_⟩
  cases et : tru h1 a with
  | none =>
    rw [et] at p1
    exact p1.elim
  | some k =>
    rw [et] at p1
    exact ⟨k, by rw [hK]; exact truV R1 rv1 et, Post.ok p1 R1⟩
end
end Z
-- Z8
set_option Elab.async false
set_option linter.all false
set_option maxRecDepth 100000
set_option maxHeartbeats 1000000
/-! Layer Z, part 8: built-in functions. -/
namespace Z
open PySem PySem.Spec PyProof.Rows L2
section
variable {X : Cx} {W : Sta} {E : XK}
theorem rvs1 {z : Zn} {as : List PV} {xs : List V} {a : PV} (r : RVs W z as xs) (e : as = [a]) : ∃ x, xs = [x] ∧ RV W z a x := by
  subst e
  obtain ⟨v, t, rfl, r1, r2⟩ := r
  cases (show t = [] from r2)
  exact ⟨v, rfl, r1⟩
theorem rvs2 {z : Zn} {as : List PV} {xs : List V} {a b : PV} (r : RVs W z as xs) (e : as = [a, b]) : ∃ x y, xs = [x, y] ∧ RV W z a x ∧ RV W z b y := by
  subst e
  obtain ⟨v, t, rfl, r1, r2⟩ := r
  obtain ⟨y, q, r3⟩ := rvs1 r2 rfl
  exact ⟨v, y, by rw [q], r1, r3⟩
/-! ### len -/
theorem biLen (hK : X.K = W.K) : CallR X (.builtin "len") (rs W E fun vs h => ofO h (biV h .len vs)) := by
  intro pins s σ H xs us Q I r ⟨z, as, h, ra, R, p⟩
  match as, ra, p with
  | [], _, p => exact p.elim
  | _ :: _ :: _, _, p => exact p.elim
  | [a], ra0, p0 =>
    obtain ⟨x, rfl, rx1⟩ := rvs1 ra0 rfl
    obtain ⟨n, e, p⟩ := ofO_map p0
    cases ed0 : dctOf h a with
    | some q =>
      have en : n = q.1.length := by
        cases a with
        | dct ks ws =>
          cases ed0
          exact (Option.some.inj e).symm
        | ref i =>
          have e2 : (match dctOf h (.ref i) with
            | some (ks, _) => some ks.length
            | none => (seqOf h (.ref i)).map (·.length)) = some n := e
          rw [ed0] at e2
          exact (Option.some.inj e2).symm
        | _ => cases ed0
      obtain ⟨pa, kvs, rfl, h1, h2, h3, h4⟩ := lkD R rx1 ed0
      obtain ⟨u, rfl, ru⟩ := vals1 r
      cases (show u = Value.ref pa from ru)
      have el : kvs.length = n := by
        rw [en, h3.length, List.length_map]
      exact d_len I (.inl h1) fun t s' I' => ⟨.int n, H, I', ⟨t, by rw [el]⟩, okV R p rfl⟩
    | none =>
    refine call_len pins s σ H _ us Q I r ⟨x, n, rfl, ?_, okV R p rfl⟩
    have key : (∀ t, a ≠ .str t) → (∀ t, a ≠ .set t) → LenV X.K x H n := fun n1 n2 => by
      have e2 : (match dctOf h a with
        | some (ks, _) => some ks.length
        | none => (seqOf h a).map (·.length)) = some n := by
        cases a with
        | str t => exact absurd rfl (n1 t)
        | set t => exact absurd rfl (n2 t)
        | _ => exact e
      cases ed : dctOf h a with
      | some q =>
        rw [ed0] at ed
        cases ed
      | none =>
        rw [ed] at e2
        simp only at e2
        cases es : seqOf h a with
        | none =>
          rw [es] at e2
          cases e2
        | some ys =>
          rw [es] at e2
          have e3 : ys.length = n := Option.some.inj e2
          obtain ⟨q, vs, rfl, hq, r9⟩ := lkSq R rx1 es
          rw [← hK] at hq
          rw [r9.length] at e3
          rcases hq with hq | hq
          · exact .inl ⟨vs, hq, e3.symm⟩
          · exact .inr ⟨vs, hq, e3.symm⟩
    cases a with
    | str t =>
      obtain ⟨rfl, l, _⟩ := rx1
      have e3 : t.length = n := Option.some.inj e
      refine ⟨by show t.toArray.size ≤ _; simpa using l, ?_⟩
      show n = t.toArray.size
      simpa using e3.symm
    | set t => exact rx1.elim
    | non => exact key nofun nofun
    | bl _ => exact key nofun nofun
    | int _ => exact key nofun nofun
    | tup _ => exact key nofun nofun
    | lst _ => exact key nofun nofun
    | dct _ _ => exact key nofun nofun
    | ref _ => exact key nofun nofun
    | obj _ _ _ => exact key nofun nofun
    | scr _ => exact key nofun nofun
/-! ### numbers and texts -/
theorem strI_eq (i : Int) : Str.ofString (toString i) = toS (strI i) := by
  have h : (Str.ofString (toString i)).cps.toList = strI i := by
    rw [signs_ofString, Int.toString_eq_repr, Int.repr_eq_if]
    unfold strI digs
    split
    · rename_i h0
      have h0 : 0 ≤ i := h0
      rw [if_neg (by omega), Nat.toList_repr]
      congr 2
      omega
    · rename_i h0
      have h0 : ¬ 0 ≤ i := h0
      rw [if_pos (by omega), String.toList_append, List.map_append, Nat.toList_repr]
      have : (-i).toNat = i.natAbs := by omega
      rw [this]
      rfl
  have e : ∀ x : Str, x = toS x.cps.toList := fun x => by
    obtain ⟨a⟩ := x
    show Str.mk a = Str.mk a.toList.toArray
    simp
  rw [e (Str.ofString (toString i)), h]
theorem okS_strI (i : Int) : okS (strI i) = true := by
  unfold okS
  rw [List.all_eq_true]
  intro c hc
  have h : ∀ n, ∀ c ∈ digs n, c < 1114112 := fun n c hc => by
    unfold digs at hc
    obtain ⟨d, hd, rfl⟩ := List.mem_map.mp hc
    have := Nat.isDigit_of_mem_toDigits (by decide) (by decide) hd
    unfold Char.isDigit at this
    simp only [Bool.and_eq_true, decide_eq_true_eq] at this
    have h2 : d.val.toNat ≤ 57 := UInt32.le_iff_toNat_le.mp this.2
    have h3 : d.toNat = d.val.toNat := rfl
    omega
  rw [decide_eq_true_eq]
  unfold strI at hc
  split at hc
  · rcases List.mem_cons.mp hc with e | hc
    · omega
    · exact h _ c hc
  · exact h _ c hc
theorem strI_len {i : Int} (h : i.natAbs < 2 ^ 1900) : (strI i).length ≤ sizeLine := by
  have h2 : i.natAbs.log2 < 1920 := Nat.lt_of_lt_of_le (PySem.Flt.log2_lt_of (by decide) h) (by decide)
  have h3 := int_text_fits h2
  rw [strI_eq] at h3
  have h4 : (strI i).toArray.size ≤ sizeLine := h3
  simpa using h4
theorem str_bool {prog : Program} {w : World} {A : Around} {E : Value → Shared → Prop} {s : Shared} {b : Bool} {Q : Value → Shared → Prop} (h : ∀ tk, Q (.str (if b then "True" else "False") s.toks) { s with toks := tk }) :
    wpAny (model prog w) A (call (.type "str") [.bool b]) Q E s :=
  callType_new F.called_str (by decide) (F.typeCall_str_1 _) (F.newCall_str_1 _) (fun obj => F.args_object_init_2 obj _) F.entry_str_new
    (meets_str_new (S := fun _ R s => R (.ok (.ret (.str (if b then "True" else "False") s.toks))) { s with toks := s.toks + 1 }) fun _ _ _ _ s hq => wpAny_strOf_gives rfl (PySem.typeIs_bool s b) F.slot_bool_str F.slot_bool_repr F.entry_bool_repr (F.args_bool_repr_1 _) (gives_bool_repr b) hq (hsz := by cases b <;> decide)) ⟨typeIs_str _ _ _, h _⟩
theorem str_none {prog : Program} {w : World} {A : Around} {E : Value → Shared → Prop} {s : Shared} {Q : Value → Shared → Prop} (h : ∀ tk, Q (.str "None" s.toks) { s with toks := tk }) :
    wpAny (model prog w) A (call (.type "str") [.none]) Q E s :=
  callType_new F.called_str (by decide) (F.typeCall_str_1 _) (F.newCall_str_1 _) (fun obj => F.args_object_init_2 obj _) F.entry_str_new
    (meets_str_new (S := fun _ R s => R (.ok (.ret (.str "None" s.toks))) { s with toks := s.toks + 1 }) fun _ _ _ _ s hq => wpAny_strOf_gives rfl (PySem.typeIs_none s) F.slot_NoneType_str F.slot_NoneType_repr F.entry_NoneType_repr (F.args_NoneType_repr_1 _) gives_none_repr hq (hsz := by decide)) ⟨typeIs_str _ _ _, h _⟩
theorem biStr : CallR X (.type "str") (rs W E fun vs h => ofO h (biV h .str vs)) := by
  intro pins s σ H xs us Q I r ⟨z, as, h, ra, R, p⟩
  match as, ra, p with
  | [], _, p => exact p.elim
  | _ :: _ :: _, _, p => exact p.elim
  | [a], ra0, p0 =>
    obtain ⟨x, rfl, rx1⟩ := rvs1 ra0 rfl
    have p1 : Post W z E (ofO h (strV a)) (KV W Q) := p0
    cases a with
    | int i =>
      cases rx1
      obtain ⟨c, p2⟩ := ofO_cond p1
      have c := of_decide_eq_true c
      refine call_str_int pins s σ H _ us Q I r ⟨i, rfl, Nat.lt_of_lt_of_le (PySem.Flt.log2_lt_of (by decide) c) (by decide), ?_⟩
      show Q (.str (Str.ofString (toString i))) H
      rw [strI_eq]
      exact okV R p2 ⟨rfl, strI_len c, okS_strI i⟩
    | str t =>
      obtain ⟨rfl, l, o⟩ := rx1
      exact SkE.call_str_str pins s σ H _ us Q I r ⟨_, rfl, okV R p1 ⟨rfl, l, o⟩⟩
    | bl b =>
      cases rx1
      obtain ⟨u, rfl, ru⟩ := vals1 r
      cases ru
      refine str_bool fun tk => ?_
      cases b with
      | true => exact ⟨.str (toS [84, 114, 117, 101]), H, I.tok _, ⟨s.toks, by kernel_rfl⟩, okV R p1 ⟨rfl, by rw [sizeLine_eq]; decide, by decide⟩⟩
      | false => exact ⟨.str (toS [70, 97, 108, 115, 101]), H, I.tok _, ⟨s.toks, by kernel_rfl⟩, okV R p1 ⟨rfl, by rw [sizeLine_eq]; decide, by decide⟩⟩
    | non =>
      cases rx1
      obtain ⟨u, rfl, ru⟩ := vals1 r
      cases ru
      refine str_none fun tk => ?_
      exact ⟨.str (toS [78, 111, 110, 101]), H, I.tok _, ⟨s.toks, by kernel_rfl⟩, okV R p1 ⟨rfl, by rw [sizeLine_eq]; decide, by decide⟩⟩
    | _ => exact p1.elim
theorem allDig {r : List Nat} (h : r.all isDig = true) : PySem.NumText.AllDigits r := fun c hc => by
  have := List.all_eq_true.mp h c hc
  unfold isDig at this
  simp only [Bool.and_eq_true, decide_eq_true_eq] at this
  exact this
theorem intOf_ok {x : List Nat} {n : Int} (e : intOf x = some n) : PySem.intText? (toS x) = some n ∧ (toS x).length ≤ 640 := by
  have ln : (toS x).length = x.length := by show x.toArray.size = _; simp
  have cp : (toS x).cps.toList = x := by simp
  match x, e, ln, cp with
  | [], e, _, _ => cases e
  | c :: r, e, ln, cp =>
    by_cases hc : c = 45
    · subst hc
      obtain ⟨c1, e1⟩ := ocond_some (show ocond (!r.isEmpty && r.all isDig && decide (r.length ≤ 600)) (-(natOf r : Int)) = some n from e)
      simp only [Bool.and_eq_true, decide_eq_true_eq, Bool.not_eq_true', List.isEmpty_eq_false_iff] at c1
      refine ⟨?_, by rw [ln, List.length_cons]; omega⟩
      rw [intText_neg cp (allDig c1.1.2) c1.1.1 (by rw [ln, List.length_cons]; omega), ← e1]
      rfl
    · have e' : ocond (!(c :: r).isEmpty && (c :: r).all isDig && decide ((c :: r).length ≤ 600)) (natOf (c :: r) : Int) = some n := by
        unfold intOf at e
        split at e
        · rename_i r' h
          exact absurd (List.cons.inj h).1 hc
        · exact e
      obtain ⟨c1, e1⟩ := ocond_some e'
      simp only [Bool.and_eq_true, decide_eq_true_eq, Bool.not_eq_true'] at c1
      refine ⟨?_, by rw [ln]; omega⟩
      rw [intText_digits (by rw [cp]; exact allDig c1.1.2) (by rw [cp]; exact List.cons_ne_nil _ _) (by rw [ln]; omega), cp, ← e1]
      rfl
theorem biInt : CallR X (.type "int") (rs W E fun vs h => ofO h (biV h .int vs)) := by
  intro pins s σ H xs us Q I r ⟨z, as, h, ra, R, p⟩
  match as, ra, p with
  | [], _, p => exact p.elim
  | _ :: _ :: _, _, p => exact p.elim
  | [a], ra0, p0 =>
    obtain ⟨x, rfl, rx1⟩ := rvs1 ra0 rfl
    cases a with
    | int i =>
      cases rx1
      exact call_int1 pins s σ H _ us Q I r (.inl ⟨i, rfl, okV R p0 rfl⟩)
    | bl b =>
      cases rx1
      exact call_int1 pins s σ H _ us Q I r (.inr ⟨b, rfl, okV R p0 rfl⟩)
    | str t =>
      obtain ⟨rfl, l, o⟩ := rx1
      obtain ⟨n, e, p2⟩ := ofO_map p0
      obtain ⟨h1, h2⟩ := intOf_ok e
      exact call_int_str pins s σ H _ us Q I r ⟨_, n, rfl, h1, h2, okV R p2 rfl⟩
    | _ => exact p0.elim
end
end Z
-- Z9
set_option Elab.async false
set_option linter.all false
set_option maxRecDepth 100000
set_option maxHeartbeats 1000000
/-! Layer Z, part 9: more built-in functions, isinstance, subscripts, slices. -/
namespace Z
open PySem PySem.Spec PyProof.Rows L2
section
variable {X : Cx} {W : Sta} {E : XK}
theorem lkSq' {z : Zn} {h : AH} {H : Hp} {a : PV} {x : V} {xs : List PV} (R : RH W z h H) (r : RV W z a x) (e : seqOf h a = some xs) : ∃ p vs, x = .ref p ∧ (SqL W.K H p vs ∨ SqT W.K z.fz p vs) ∧ RVs W z xs vs := by
  cases a with
  | tup ys =>
    cases e
    obtain ⟨p, vs, rfl, q, r⟩ := r
    exact ⟨p, vs, rfl, .inr q, r⟩
  | lst ys =>
    cases e
    obtain ⟨p, vs, rfl, q, r⟩ := r
    exact ⟨p, vs, rfl, .inl (SqL.of (R.fz _ _ q)), r⟩
  | scr ys =>
    cases e
    obtain ⟨p, vs, rfl, q, r⟩ := r
    exact ⟨p, vs, rfl, .inl (sqL_H R q), r⟩
  | ref i =>
    unfold seqOf at e
    simp only at e
    split at e
    · rename_i ys hy
      cases e
      obtain ⟨p, _, rfl, vs, q, r⟩ := refMO R r hy
      exact ⟨p, vs, rfl, .inl (SqL.of q), r⟩
    · cases e
  | _ => cases e
theorem biTuple (hK : X.K = W.K) : CallR X (.type "tuple") (rs W E fun vs h => ofO h (biV h .tuple vs)) := by
  intro pins s σ H xs us Q I r ⟨z, as, h, ra, R, p⟩
  match as, ra, p with
  | [], _, p => exact p.elim
  | _ :: _ :: _, _, p => exact p.elim
  | [a], ra0, p0 =>
    obtain ⟨x, rfl, rx1⟩ := rvs1 ra0 rfl
    obtain ⟨ys, e, p1⟩ := ofO_map p0
    obtain ⟨q, vs, rfl, hq, r9⟩ := lkSq' R rx1 e
    rcases hq with hq | hq
    · exact call_tuple_of pins s σ H _ us Q I r ⟨q, vs, rfl, .inl ⟨by rw [hK]; exact hq, fun l n => newT R r9 p1 l n⟩⟩
    · exact call_tuple_of pins s σ H _ us Q I r ⟨q, vs, rfl, .inr ⟨by rw [hK]; exact sqT_H R hq, okV R p1 ⟨q, vs, rfl, hq, r9⟩⟩⟩
theorem allB_ok {z : Zn} : ∀ {ys : List PV} {vs : List V} {bs : List Bool}, allB ys = some bs → RVs W z ys vs → vs = bs.map V.bl
  | [], vs, bs, e, r => by
    cases e
    exact r
  | y :: t, _, bs, e, r => by
    obtain ⟨v, us, rfl, r1, r2⟩ := r
    cases y with
    | bl b =>
      have e' : (allB t).map (b :: ·) = some bs := e
      cases e2 : allB t with
      | none =>
        rw [e2] at e'
        cases e'
      | some cs =>
        rw [e2] at e'
        have e3 : b :: cs = bs := Option.some.inj e'
        cases r1
        rw [← e3, allB_ok e2 r2]
        rfl
    | _ => cases e
theorem lstOf_ok {z : Zn} {h : AH} {H : Hp} {a : PV} {x : V} {bs : List Bool} (R : RH W z h H) (r : RV W z a x) (e : lstOf h a = some bs) : ∃ p, x = .ref p ∧ H p = some (.lst (bs.map V.bl)) := by
  unfold lstOf at e
  cases el : look h a with
  | lst ys =>
    rw [el] at e
    obtain ⟨p, vs, rfl, h1, h2⟩ := lkL R r el
    exact ⟨p, rfl, by rw [h1, allB_ok e h2]⟩
  | _ =>
    rw [el] at e
    cases e
theorem biAll (hc : X.calm = true) : CallR X (.builtin "all") (rs W E fun vs h => ofO h (biV h .all vs)) := by
  intro pins s σ H xs us Q I r ⟨z, as, h, ra, R, p⟩
  match as, ra, p with
  | [], _, p => exact p.elim
  | _ :: _ :: _, _, p => exact p.elim
  | [a], ra0, p0 =>
    obtain ⟨x, rfl, rx1⟩ := rvs1 ra0 rfl
    obtain ⟨bs, e, p1⟩ := ofO_map p0
    obtain ⟨q, rfl, h1⟩ := lstOf_ok R rx1 e
    exact cr_all hc pins s σ H _ us Q I r ⟨q, bs, rfl, SqL.of h1, okV R p1 rfl⟩
theorem biAny (hc : X.calm = true) : CallR X (.builtin "any") (rs W E fun vs h => ofO h (biV h .any vs)) := by
  intro pins s σ H xs us Q I r ⟨z, as, h, ra, R, p⟩
  match as, ra, p with
  | [], _, p => exact p.elim
  | _ :: _ :: _, _, p => exact p.elim
  | [a], ra0, p0 =>
    obtain ⟨x, rfl, rx1⟩ := rvs1 ra0 rfl
    obtain ⟨bs, e, p1⟩ := ofO_map p0
    obtain ⟨q, rfl, h1⟩ := lstOf_ok R rx1 e
    exact cr_any hc pins s σ H _ us Q I r ⟨q, bs, rfl, SqL.of h1, okV R p1 rfl⟩
theorem ints2 {z : Zn} {as : List PV} {xs : List V} {h : AH} {f : Int → Int → Option PV} {K : Zn → PV → AH → Hp → Prop} (r : RVs W z as xs) (p : Post W z E (ofO h (on2 (intV f) as)) K) :
    ∃ i j, xs = [.int i, .int j] ∧ Post W z E (ofO h (f i j)) K := by
  match as, r, p with
  | [], _, p => exact p.elim
  | [_], _, p => exact p.elim
  | _ :: _ :: _ :: _, _, p => exact p.elim
  | [a, b], r, p =>
    obtain ⟨x, y, rfl, r1, r2⟩ := rvs2 r rfl
    cases a with
    | int i =>
      cases b with
      | int j =>
        cases r1
        cases r2
        exact ⟨i, j, rfl, p⟩
      | _ => exact p.elim
    | _ => exact p.elim
theorem biMin (hc : X.calm = true) : CallR X (.builtin "min") (rs W E fun vs h => ofO h (biV h .min vs)) := by
  intro pins s σ H xs us Q I r ⟨z, as, h, ra, R, p⟩
  obtain ⟨i, j, e, p⟩ := ints2 ra p
  exact call_min2 hc pins s σ H _ us Q I r ⟨i, j, e, okV R p rfl⟩
theorem biMax (hc : X.calm = true) : CallR X (.builtin "max") (rs W E fun vs h => ofO h (biV h .max vs)) := by
  intro pins s σ H xs us Q I r ⟨z, as, h, ra, R, p⟩
  obtain ⟨i, j, e, p⟩ := ints2 ra p
  exact call_max2 hc pins s σ H _ us Q I r ⟨i, j, e, okV R p rfl⟩
/-! ### isinstance -/
def TN.ty : TN → String
  | .non => "NoneType"
  | .bl => "bool"
  | .int => "int"
  | .str => "str"
  | .tup => "tuple"
  | .lst => "list"
def tyName : Ty → String
  | .int => "int"
  | .bool => "bool"
  | .str => "str"
  | .tup => "tuple"
  | .lst => "list"
  | .cls _ => ""
theorem tnOf_ok {z : Zn} {h : AH} {H : Hp} {a : PV} {x : V} {n : TN} (R : RH W z h H) (r : RV W z a x) (e : tnOf h a = some n) : TyX W.K H x (.type n.ty) := by
  cases a with
  | non => cases r; cases e; exact .base .non
  | bl b => cases r; cases e; exact .base (.bl b)
  | int b => cases r; cases e; exact .base (.int b)
  | str b => obtain ⟨rfl, _⟩ := r; cases e; exact .base (.str _)
  | tup b =>
    obtain ⟨p, vs, rfl, q, _⟩ := r
    cases e
    rcases q with (q | ⟨o, q⟩) | ⟨o, its, n, k1, k2, _⟩
    · exact .base (.tup (R.fz _ _ q))
    · exact .fTuple (R.fz _ _ q)
    · exact .kTuple k1 k2
  | lst b =>
    obtain ⟨p, vs, rfl, q, _⟩ := r
    cases e
    exact .base (.lst (R.fz _ _ q))
  | scr b =>
    obtain ⟨p, vs, rfl, q, _⟩ := r
    cases e
    rcases q with (q | ⟨o, q⟩) | ⟨o, its, n, k1, k2, _⟩
    · exact .base (.lst (R.fz _ _ q))
    · exact .base (.frz (R.fz _ _ q))
    · exact .kList k1 k2
  | ref i =>
    unfold tnOf at e
    simp only at e
    split at e
    · rename_i ys hy
      cases e
      obtain ⟨p, _, rfl, vs, q, _⟩ := refMO R r hy
      exact .base (.lst q)
    · cases e
  | _ => cases e
theorem is_kit {K : PySem.W.Frag} {n : TN} {t : Ty} {b : Bool} (e : n.is t = some b) : PySem.W.kitOne K (.type n.ty) (.type (tyName t)) = some b := by
  apply kit_ty
  cases n <;> cases t <;> first | (cases e; decide +kernel) | cases e
/-- isinstance(a, T) -/
theorem zIsi (hK : X.K = W.K) {f : Env → AH → Res PV} {e : Expr} {t : Ty} {p p2 pos : Pos} {T : Str} (hp : PE X e (tE W E f)) (hg : Gl X "isinstance") (hm : X.mg "isinstance" = none) (hgT : Gl X T) (hmT : X.mg T = none)
    (hT : bootBuiltins T = some (.type (tyName t))) (hnT : T ≠ "__name__") (hdT : (T == ("__debug__" : Str)) = false)
    (hs : starEach [e, .Name T p2] X.env = (false, eval e X.env) :: starEach [.Name T p2] X.env) :
    PE X (.Call (.Name "isinstance" p) [e, .Name T p2] [] pos) (tE W E fun ρ h => (f ρ h).bnd fun x h1 => ofO h1 ((isiV h1 x t).map .bl)) := by
  have hq : PE X (.Name T p2) (tC (.ty (tyName t))) := pe_bltn hgT hmT hT rfl hnT hdT
  refine (pe_callB call_isi hg hm (by decide +kernel) (pa_cons hp (pa_cons hq pa_nil) hs) (by decide) (by decide) hs).imp fun σ H Q ⟨z, ρ, h, re, rh, q⟩ => ?_
  refine ⟨z, ρ, h, re, rh, q.bnd.imp fun z1 a h1 H1 l1 R1 p1 v1 rv1 => ?_⟩
  obtain ⟨b, e, p1⟩ := ofO_map p1
  unfold isiV at e
  cases en : tnOf h1 a with
  | none =>
    rw [en] at e
    cases e
  | some n =>
    rw [en] at e
    exact ⟨v1, .ty (tyName t), .type n.ty, .type (tyName t), b, rfl, .ty _, by rw [hK]; exact tnOf_ok R1 rv1 en, is_kit e, okV R1 p1 rfl⟩
/-! ### subscripts -/
/-- a dict, subscripted -/
theorem ixD {value slice : Expr} {pins : List (Addr × Obj)} {s : Shared} {σ : L2.St} {H : Hp} {a : Addr} {y w : V} {u : Value} {Q : VK} (hu : X.A.units + 64 < cLine) (I : Inv X pins σ H s) (g : DGet H a y (some w)) (ry : RelV y u) (q : Q w H)
    (hs : subscripted slice false (.ref a) u = operate [.ref a, u] (getItem (.ref a) u)) : wpAny (model X.prog X.w) X.A (subscriptTail value slice (.ref a) u) (EP X pins σ Q) X.xe s := by
  have hT := dict_typeIs I g
  unfold subscriptTail
  refine wpAny_bind ?_
  rw [getitemInPython_of_ne hT.not_modules]
  refine wpAny_bind (wpAny_specialOf hT PySem.F.slot_dict_getitem.lookup ?_)
  have fin : wpAny (model X.prog X.w) X.A (subscripted slice false (.ref a) u) (fun r s₃ => wpAny (model X.prog X.w) X.A (letTemporaryGo value (.ref a) r >>= fun _ => pure r) (EP X pins σ Q) X.xe s₃) X.xe s := by
    rw [hs]
    exact wpAny_operating (d_getItem (by omega) I g ry fun w' s' I' rw' => wpAny_bind (wpAny_letTemporaryGo (wpAny_pure ⟨w, H, I', rw', q⟩)))
  first
    | exact wpAny_pure (wpAny_bind fin)
    | exact wpAny_bind (wpAny_pure (wpAny_bind fin))
    | exact wpAny_bind fin
theorem ixSub (hK : X.K = W.K) (hu : X.A.units + 64 < cLine) : IxR X (r2 W E fun x y h => ofO h (subV h x y)) := by
  intro value slice pins s σ H x y v u Q I rx ry ⟨z, a, b, h, ra, rb, R, p⟩ hs
  have key : (∀ t, a ≠ .str t) → wpAny (model X.prog X.w) X.A (subscriptTail value slice v u) (EP X pins σ Q) X.xe s := fun n1 => by
    have p2 : Post W z E (ofO h (subN h a b)) (KV W Q) := by
      cases a with
      | str t => exact absurd rfl (n1 t)
      | _ => exact p
    unfold subN at p2
    cases ed : dctOf h a with
    | some q =>
      rw [ed] at p2
      have p3 : Post W z E (ofO h ((ocond (keyOk b) ()).bind fun _ => getK b q.1 q.2)) (KV W Q) := p2
      cases ek : keyOk b with
      | false =>
        rw [ek] at p3
        exact p3.elim
      | true =>
        rw [ek] at p3
        obtain ⟨pa, o, rfl, dg, g1, _, _⟩ := dgetV R ra ed rb ek
        cases (show v = Value.ref pa from rx)
        have p4 : Post W z E (ofO h (getK b q.1 q.2)) (KV W Q) := p3
        cases eg : getK b q.1 q.2 with
        | none =>
          rw [eg] at p4
          exact p4.elim
        | some pv =>
          rw [eg] at p4
          obtain ⟨w, rfl, rw'⟩ := g1 pv eg
          exact ixD hu I dg ry (okV R p4 rw') hs
    | none =>
      rw [ed] at p2
      simp only at p2
      cases es : seqOf h a with
      | none =>
        rw [es] at p2
        cases b <;> exact p2.elim
      | some ys =>
        rw [es] at p2
        cases b with
        | int j =>
          cases rb
          have p2 : Post W z E (ofO h (atL ys j)) (KV W Q) := p2
          cases ea : atL ys j with
          | none =>
            rw [ea] at p2
            exact p2.elim
          | some w =>
            rw [ea] at p2
            obtain ⟨q, vs, rfl, hq, r9⟩ := lkSq R ra es
            have ea' : (ixOf ys.length j).bind (fun k => ys[k]?) = some w := ea
            cases ei : ixOf ys.length j with
            | none =>
              rw [ei] at ea'
              cases ea'
            | some k =>
              rw [ei] at ea'
              obtain ⟨w', hw, rw'⟩ := r9.get ea'
              have av : atI vs j = some w' := by
                show (ixN vs.length j).bind (fun k => vs[k]?) = some w'
                have : ixN vs.length j = some k := by
                  rw [← r9.length]
                  exact ei
                rw [this]
                exact hw
              rw [← hK] at hq
              rcases hq with hq | hq
              · exact ix_list value slice pins s σ H _ _ v u Q I rx ry ⟨q, vs, j, w', rfl, rfl, hq, av, okV R p2 rw'⟩ hs
              · exact ix_tup value slice pins s σ H _ _ v u Q I rx ry ⟨q, vs, j, w', rfl, rfl, hq, av, okV R p2 rw'⟩ hs
        | _ => exact p2.elim
  cases a with
  | str t =>
    cases b with
    | int j =>
      cases rb
      obtain ⟨rfl, l, o⟩ := ra
      obtain ⟨c, e, p2⟩ := ofO_map (show Post W z E (ofO h ((atL t j).map fun c => .str [c])) (KV W Q) from p)
      have av : atI (toS t).cps.toList j = some c := by
        have : (toS t).cps.toList = t := by simp
        rw [this]
        exact e
      refine ix_str value slice pins s σ H _ _ v u Q I rx ry ⟨toS t, j, c, rfl, rfl, by show t.toArray.size ≤ _; simpa using l, av, ?_⟩ hs
      have hc : c ∈ t := by
        have e2 : (ixOf t.length j).bind (fun k => t[k]?) = some c := e
        cases ei : ixOf t.length j with
        | none =>
          rw [ei] at e2
          cases e2
        | some k =>
          rw [ei] at e2
          exact List.mem_of_getElem? e2
      have ok : okS [c] = true := by
        have := List.all_eq_true.mp o c hc
        unfold okS
        rw [List.all_cons, this]
        rfl
      exact okV R p2 ⟨rfl, by rw [sizeLine_eq]; exact (by decide : 1 ≤ 16777216), ok⟩
    | _ => exact p.elim
  | non => exact key nofun
  | bl _ => exact key nofun
  | int _ => exact key nofun
  | tup _ => exact key nofun
  | lst _ => exact key nofun
  | dct _ _ => exact key nofun
  | set _ => exact key nofun
  | ref _ => exact key nofun
  | obj _ _ _ => exact key nofun
  | scr _ => exact key nofun
/-! ### slices -/
def rSl (W : Sta) (E : XK) (k : PV → Option Int → Option Int → AH → Res PV) : V → Option Int → Option Int → Hp → VK → Prop := fun x lo hi H Q => ∃ z a h, RV W z a x ∧ RH W z h H ∧ Post W z E (k a lo hi h) (KV W Q)
theorem cutL_RVs {z : Zn} {xs : List PV} {vs : List V} (r : RVs W z xs vs) (lo hi : Option Int) : RVs W z (cutL xs lo hi) (cutV vs lo hi) := by
  unfold cutL cutV
  rw [r.length]
  exact (r.drop _).take _
theorem okS_cut {t : List Nat} (o : okS t = true) (lo hi : Option Int) : okS (cutL t lo hi) = true := by
  unfold okS at *
  rw [List.all_eq_true] at *
  exact fun c hc => o c (List.mem_of_mem_drop (List.mem_of_mem_take hc))
theorem cutL_len {α : Type} (t : List α) (lo hi : Option Int) : (cutL t lo hi).length ≤ t.length := by
  unfold cutL
  rw [List.length_take, List.length_drop]
  omega
theorem slSlc (hK : X.K = W.K) : SlR X (rSl W E fun x lo hi h => ofO h (slcV h x lo hi)) := by
  intro pins s σ H x v vl vu lo hi sl Q I rx hs pl pu ⟨z, a, h, ra, R, p⟩
  have key : (∀ t, a ≠ .str t) → (∀ t, a ≠ .tup t) → ∃ T id, typeLookup (.type T) "__getitem__" = pure (some (.builtin id)) ∧ s.TypeIs v T ∧ wpAny (model X.prog X.w) X.A (getItem v (.ref sl)) (EP X pins σ Q) X.xe s := fun n1 n2 => by
    have p2 : Post W z E (ofO h ((slcM h a lo hi).map freezeMO)) (KV W Q) := by
      cases a with
      | str t => exact absurd rfl (n1 t)
      | tup t => exact absurd rfl (n2 t)
      | _ => exact p
    unfold slcM at p2
    cases el : look h a with
    | lst ys =>
      rw [el] at p2
      obtain ⟨q, vs, rfl, h1, r9⟩ := lkL R ra el
      exact sl_list pins s σ H _ v vl vu lo hi sl Q I rx hs pl pu ⟨q, vs, rfl, SqL.of h1, fun l n => newL R (cutL_RVs r9 lo hi) p2 l n⟩
    | _ =>
      rw [el] at p2
      exact p2.elim
  cases a with
  | str t =>
    obtain ⟨rfl, l, o⟩ := ra
    refine sl_str pins s σ H _ v vl vu lo hi sl Q I rx hs pl pu ⟨toS t, rfl, by show t.toArray.size ≤ _; simpa using l, ?_⟩
    have e : cutS (toS t) lo hi = toS (cutL t lo hi) := by
      unfold cutS cutL
      have e1 : (toS t).length = t.length := by show t.toArray.size = _; simp
      rw [e1]
      rfl
    rw [e]
    exact okV R p ⟨rfl, Nat.le_trans (cutL_len t lo hi) l, okS_cut o lo hi⟩
  | tup t =>
    obtain ⟨q, vs, rfl, hq, r9⟩ := ra
    refine sl_tupA pins s σ H _ v vl vu lo hi sl Q I rx hs pl pu ⟨q, vs, rfl, by rw [hK]; exact sqT_H R hq, fun w => ?_, fun w l n => newT R (cutL_RVs r9 lo hi) p l n⟩
    have e : cutL t lo hi = t := by
      have hl := r9.length
      have w1 : sIx t.length 0 lo = 0 := by rw [hl]; exact w.1
      have w2 : sIx t.length t.length hi = t.length := by
        rw [hl]
        exact w.2
      unfold cutL
      rw [w1, w2]
      simp
    have p' : Post W z E (.ok (.tup (cutL t lo hi)) h) (KV W Q) := p
    rw [e] at p'
    exact okV R p' ⟨q, vs, rfl, hq, r9⟩
  | non => exact key nofun nofun
  | bl _ => exact key nofun nofun
  | int _ => exact key nofun nofun
  | lst _ => exact key nofun nofun
  | dct _ _ => exact key nofun nofun
  | set _ => exact key nofun nofun
  | ref _ => exact key nofun nofun
  | obj _ _ _ => exact key nofun nofun
  | scr _ => exact key nofun nofun
end
end Z
-- Z10
set_option Elab.async false
set_option linter.all false
set_option maxRecDepth 100000
set_option maxHeartbeats 1000000
/-! Layer Z, part 10: expressions, one by one. -/
namespace Z
open PySem PySem.Spec PyProof.Rows L2
section
variable {X : Cx} {W : Sta} {E : XK} {C : Ctx} {σ : L2.St} {H : Hp} {pos : Pos}

/-- a new thing comes: at a free place -/
def isO (W : Sta) (z : Zn) (H : Hp) (a : Addr) : MO → HO → Prop
  | .lst xs, o => ∃ vs, o = .lst vs ∧ RVs W z xs vs
  | .dct ks ws, o => ∃ kvs, o = .dK kvs ∧ (kvs.map (·.1)).Nodup ∧ RVs W z ks (kvs.map fun q => L2.kV q.1) ∧ RVs W z ws (kvs.map (·.2))
  | .ins _ _ _, _ => False
abbrev KA (W : Sta) (Q : VK) : Zn → MO → AH → Hp → Prop := fun z m _ H => ∀ a o, H a = none → isO W z H a m o → Q (.ref a) (upd H a o)
def tAl (W : Sta) (E : XK) (f : Env → AH → Res MO) : TE := fun σ H Q => ∃ z ρ h, RE W z ρ σ ∧ RH W z h H ∧ Post W z E (f ρ h) (KA W Q)
theorem alFrz {f : Env → AH → Res MO} {e : Expr} (hp : PE X e (tAl W E f)) : PE X e (tE W E fun ρ h => (f ρ h).bnd fun m h1 => .ok (freezeMO m) h1) := by
  refine hp.imp fun σ H Q ⟨z, ρ, h, re, rh, p⟩ => ⟨z, ρ, h, re, rh, p.bnd.imp fun z1 m h1 H1 l1 R1 p1 a o hn ho => ?_⟩
  cases m with
  | lst xs =>
    obtain ⟨vs, rfl, r⟩ := ho
    exact newL R1 r p1 a hn
  | dct ks ws =>
    obtain ⟨kvs, rfl, nd, r1, r2⟩ := ho
    exact p1 (addFz z1 a (.dK kvs)) _ (R1.le_fz hn) (R1.newFz hn rfl) _ ⟨a, kvs, rfl, addFz_at, nd, RVs.mono (R1.le_fz hn) _ _ r1, RVs.mono (R1.le_fz hn) _ _ r2⟩
  | ins _ _ _ => exact ho.elim
theorem alMut {f : Env → AH → Res MO} {e : Expr} (hp : PE X e (tAl W E f)) : PE X e (tE W E fun ρ h => (f ρ h).bnd fun m h1 => .ok (.ref h1.length) (h1 ++ [m])) := by
  refine hp.imp fun σ H Q ⟨z, ρ, h, re, rh, p⟩ => ⟨z, ρ, h, re, rh, p.bnd.imp fun z1 m h1 H1 l1 R1 p1 a o hn ho => ?_⟩
  cases m with
  | lst xs =>
    obtain ⟨vs, rfl, r⟩ := ho
    have R2 : RH W (addMp z1 a) (h1 ++ [.lst xs]) (upd H1 a (.lst vs)) := R1.newMp hn ⟨vs, upd_same, r⟩
    refine p1 (addMp z1 a) _ le_mp R2 (.ref a) ⟨a, ?_, rfl⟩
    show (z1.mp ++ [a])[h1.length]? = some a
    rw [← R1.len]
    simp
  | dct ks ws =>
    obtain ⟨kvs, rfl, nd, r1, r2⟩ := ho
    have R2 : RH W (addMp z1 a) (h1 ++ [.dct ks ws]) (upd H1 a (.dK kvs)) := R1.newMp hn ⟨kvs, upd_same, nd, r1, r2⟩
    refine p1 (addMp z1 a) _ le_mp R2 (.ref a) ⟨a, ?_, rfl⟩
    show (z1.mp ++ [a])[h1.length]? = some a
    rw [← R1.len]
    simp
  | ins _ _ _ => exact ho.elim

/-! ### lists of expressions -/
theorem zNil : PA X [] (tA W E (evEs C [])) := by
  refine pa_nil.imp fun σ H Q ⟨z, ρ, h, re, rh, p⟩ => ?_
  exact Post.ok (K := fun z' vs _ H' => ∀ vs', RVs W z' vs vs' → Q vs' H') p rh [] RVs.nil
theorem zCons {e : Expr} {es : List Expr} {e' : Z.E} {es' : List Z.E} (he : PE X e (tE W E (evE C e'))) (hs : PA X es (tA W E (evEs C es'))) (hst : starEach (e :: es) X.env = (false, eval e X.env) :: starEach es X.env) :
    PA X (e :: es) (tA W E (evEs C (e' :: es'))) := by
  refine (pa_cons he hs hst).imp fun σ H Q ⟨z, ρ, h, re, rh, p⟩ => ?_
  have p' : Post W z E ((evE C e' ρ h).bnd fun v h1 => (evEs C es' ρ h1).bnd fun vs h2 => .ok (v :: vs) h2) fun z' vs _ H' => ∀ vs', RVs W z' vs vs' → Q vs' H' := p
  refine ⟨z, ρ, h, re, rh, p'.bnd.imp fun z1 a h1 H1 l1 R1 p1 v1 r1 => ?_⟩
  refine ⟨z1, ρ, h1, re.mono l1, R1, p1.bnd.imp fun z2 bs h2 H2 l2 R2 p2 vs2 r2 => ?_⟩
  exact Post.ok p2 R2 (v1 :: vs2) (RVs.cons (RV.mono l2 _ _ r1) r2)
theorem evEs_len : ∀ (es : List Z.E) (ρ : Z.Env) (h : AH) (vs : List PV) (h' : AH), evEs C es ρ h = .ok vs h' → vs.length = es.length
  | [], _, _, _, _, q => by
    have q' : Res.ok [] _ = Res.ok _ _ := q
    cases q'
    rfl
  | e :: es, ρ, h, vs, h', q => by
    have q' : (evE C e ρ h).bnd (fun v h1 => (evEs C es ρ h1).bnd fun vs h2 => .ok (v :: vs) h2) = .ok vs h' := q
    cases h1 : evE C e ρ h with
    | stuck =>
      rw [h1] at q'
      cases q'
    | exc x h =>
      rw [h1] at q'
      cases q'
    | ok v h2 =>
      rw [h1] at q'
      cases h3 : evEs C es ρ h2 with
      | stuck =>
        rw [Res.bnd_ok, h3] at q'
        cases q'
      | exc x h =>
        rw [Res.bnd_ok, h3] at q'
        cases q'
      | ok us h4 =>
        rw [Res.bnd_ok, h3] at q'
        cases q'
        rw [List.length_cons, List.length_cons, evEs_len es ρ h2 us _ h3]
/-- the length is known -/
theorem post_len {z : Zn} {es : List Z.E} {ρ : Z.Env} {h : AH} {K : Zn → List PV → AH → Hp → Prop} (p : Post W z E (evEs C es ρ h) K) : Post W z E (evEs C es ρ h) fun z' vs h' H' => vs.length = es.length ∧ K z' vs h' H' := by
  cases q : evEs C es ρ h with
  | stuck =>
    rw [q] at p
    exact p
  | exc x h =>
    rw [q] at p
    exact p
  | ok vs h' =>
    rw [q] at p
    exact fun z' H' l R => ⟨evEs_len es ρ h vs h' q, p z' H' l R⟩
theorem zTup {es : List Expr} {es' : List Z.E} {k : Nat} (hs : PA X es (tA W E (evEs C es'))) (hl : es'.length < 100000) : PE X (.Tuple es k pos) (tE W E (evE C (.tup es'))) := by
  refine (pe_tup hs).imp fun σ H Q ⟨z, ρ, h, re, rh, p⟩ => ?_
  have p' : Post W z E ((evEs C es' ρ h).bnd fun vs h1 => .ok (.tup vs) h1) (KV W Q) := p
  refine ⟨z, ρ, h, re, rh, (post_len p'.bnd).imp fun z1 vs h1 H1 l1 R1 ⟨ln, p1⟩ us r => ⟨?_, fun a n => newT R1 r p1 a n⟩⟩
  rw [← r.length, ln, sizeLine_eq]
  omega
theorem zDisp {es : List Expr} {es' : List Z.E} (hs : PA X es (tA W E (evEs C es'))) (hl : es'.length < 100000) : PE X (.List es pos) (tAl W E (evA C (.disp es'))) := by
  refine (pe_lst hs).imp fun σ H Q ⟨z, ρ, h, re, rh, p⟩ => ?_
  have p' : Post W z E ((evEs C es' ρ h).bnd fun vs h1 => .ok (.lst vs) h1) (KA W Q) := p
  refine ⟨z, ρ, h, re, rh, (post_len p'.bnd).imp fun z1 vs h1 H1 l1 R1 ⟨ln, p1⟩ us r => ⟨?_, fun a n => ?_⟩⟩
  · rw [← r.length, ln, sizeLine_eq]
    omega
  · exact (Post.ok (K := KA W Q) p1 R1) a (.lst us) n ⟨us, rfl, r⟩

/-! ### operators -/
theorem zBin (hK : X.K = W.K) {a b : Expr} {a' b' : Z.E} (o : BOp) (ha : PE X a (tE W E (evE C a'))) (hb : PE X b (tE W E (evE C b'))) : PE X (.BinOp a (opOf o) b pos) (tE W E (evE C (.bin o a' b'))) :=
  (pe_op (opBin hK o) ha hb).imp fun σ H Q q => tE2 (k := fun x y h => ofO h (binV h o x y)) q
theorem zCmp (hK : X.K = W.K) (hu : X.A.units + 64 < cLine) {a b : Expr} {a' b' : Z.E} (o : COp) (ha : PE X a (tE W E (evE C a'))) (hb : PE X b (tE W E (evE C b'))) (hm : behindInMarks (cmpOf o) b = false) :
    PE X (.Compare a [cmpOf o] [b] pos) (tE W E (evE C (.cmp o a' b'))) :=
  (pe_cmpR (opCmp hK hu o) ha hb hm).imp fun σ H Q q => tE2 (k := fun x y h => ofO h ((cmpV h o x y).map .bl)) q
theorem zSub (hK : X.K = W.K) (hu : X.A.units + 64 < cLine) {a b : Expr} {a' b' : Z.E} (ha : PE X a (tE W E (evE C a'))) (hb : PE X b (tE W E (evE C b'))) (hs : PlainIx b) : PE X (.Subscript a b pos) (tE W E (evE C (.sub a' b'))) :=
  (pe_ix (ixSub hK hu) ha hb hs).imp fun σ H Q q => tE2 (k := fun x y h => ofO h (subV h x y)) q
/-- a test of a value -/
theorem bl_of {o : Option Bool} {v : PV} (e : o.map PV.bl = some v) : ∃ b, o = some b ∧ v = .bl b := by
  cases o with
  | none => cases e
  | some b =>
    cases e
    exact ⟨b, rfl, rfl⟩
theorem ofO_bl {z : Zn} {h : AH} {o : Option Bool} {K : Zn → PV → AH → Hp → Prop} (p : Post W z E (ofO h (o.map .bl)) K) : ∃ b, o = some b ∧ Post W z E (.ok (.bl b) h) K := by
  cases o with
  | none => exact p.elim
  | some b => exact ⟨b, rfl, p⟩
theorem chainT {a' b' c' : Z.E} {o o2 : COp} {Q : VK} (q : tE W E (evE C (.chain o o2 a' b' c')) σ H Q) :
    tChain (r2 W E fun x y h => ofO h ((cmpV h o x y).map .bl)) (r2 W E fun x y h => ofO h ((cmpV h o2 x y).map .bl)) (tE W E (evE C a')) (tE W E (evE C b')) (tE W E (evE C c')) σ H Q := by
  obtain ⟨z, ρ, h, re, rh, p⟩ := q
  have p' : Post W z E ((evE C a' ρ h).bnd fun x h1 => (evE C b' ρ h1).bnd fun y h2 => match cmpV h2 o x y with
    | some true => (evE C c' ρ h2).bnd fun z h3 => ofO h3 ((cmpV h3 o2 y z).map .bl)
    | some false => .ok (.bl false) h2
    | none => .stuck) (KV W Q) := p
  refine ⟨z, ρ, h, re, rh, p'.bnd.imp fun z1 x h1 H1 l1 R1 p1 v1 r1 => ?_⟩
  refine ⟨z1, ρ, h1, re.mono l1, R1, p1.bnd.imp fun z2 y h2 H2 l2 R2 p2 v2 r2 => ?_⟩
  refine ⟨z2, x, y, h2, RV.mono l2 _ _ r1, r2, R2, ?_⟩
  cases e : cmpV h2 o x y with
  | none =>
    rw [e] at p2
    exact p2.elim
  | some k =>
    rw [e] at p2
    show Post W z2 E (ofO h2 (Option.map PV.bl (cmpV h2 o x y))) _
    rw [e]
    show Post W z2 E (Res.ok (PV.bl k) h2) _
    intro z3 H3 l3 R3 v3 r3
    refine ⟨k, r3, ?_⟩
    cases k with
    | true =>
      rw [if_pos rfl]
      refine ⟨z3, ρ, h2, ((re.mono l1).mono l2).mono l3, R3, (Post.mono l3 p2).bnd.imp fun z4 w h4 H4 l4 R4 p4 v4 r4 => ?_⟩
      exact ⟨z4, y, w, h4, RV.mono l4 _ _ (RV.mono l3 _ _ r2), r4, R4, p4⟩
    | false =>
      rw [if_neg (by decide)]
      exact Post.ok (Post.mono l3 p2) R3 (.bl false) rfl
theorem zChain (hK : X.K = W.K) (hu : X.A.units + 64 < cLine) {a b c : Expr} {a' b' c' : Z.E} (o o2 : COp) (ha : PE X a (tE W E (evE C a'))) (hb : PE X b (tE W E (evE C b'))) (hc : PE X c (tE W E (evE C c')))
    (hm : lastMarks [cmpOf o, cmpOf o2] [b, c] = false) : PE X (.Compare a [cmpOf o, cmpOf o2] [b, c] pos) (tE W E (evE C (.chain o o2 a' b' c'))) :=
  (pe_chain (opCmp (E := E) hK hu o) (opCmp (E := E) hK hu o2) ha hb hc hm).imp fun σ H Q q => chainT q
theorem plainIx_of {b : Expr} (h : (match b with
  | .Slice _ _ _ _ => true
  | _ => false) = false) : PlainIx b := by
  cases b <;> first | exact (fun _ _ => rfl) | cases h
end
section
variable {X : Cx} {W : Sta} {E : XK} {C : Ctx} {σ : L2.St} {H : Hp} {pos : Pos}
/-! ### tests -/
theorem tstR_bl {z : Zn} {f : Env → AH → Res PV} {ρ : Env} {h : AH} {K : Zn → Bool → AH → Hp → Prop} (p : Post W z E (tstR f ρ h) K) : Post W z E (f ρ h) fun z' v h' H' => ∃ b, tru h' v = some b ∧ K z' b h' H' := by
  have p' : Post W z E ((f ρ h).bnd fun v h1 => ofO h1 (tru h1 v)) K := p
  refine p'.bnd.imp fun z1 v h1 H1 l1 R1 p1 => ?_
  cases e : tru h1 v with
  | none =>
    rw [e] at p1
    exact p1.elim
  | some b =>
    rw [e] at p1
    exact ⟨b, rfl, Post.ok p1 R1⟩
/-- what a test of a comparison says -/
theorem zCmpT {e : Expr} {f : Env → AH → Res PV} {t : TE} (hp : PT X e (tTest t)) (ht : ∀ σ H Q, tE W E f σ H Q → t σ H Q) (hb : ∀ ρ h v h', f ρ h = .ok v h' → ∃ b, v = .bl b) : PT X e (tT W E (tstR f)) := by
  refine hp.imp fun σ H Q ⟨z, ρ, h, re, rh, p⟩ => ht σ H _ ⟨z, ρ, h, re, rh, ?_⟩
  have q := tstR_bl p
  cases e : f ρ h with
  | stuck =>
    rw [e] at q
    exact q
  | exc x h =>
    rw [e] at q
    exact q
  | ok v h' =>
    rw [e] at q
    intro z' H' l R v' r
    obtain ⟨b, rfl⟩ := hb ρ h v h' e
    obtain ⟨b', e1, q1⟩ := q z' H' l R
    cases e1
    exact ⟨b, r, q1⟩
theorem bnd_ok_inv {α β : Type} {r : Res α} {f : α → AH → Res β} {b : β} {h : AH} (e : r.bnd f = .ok b h) : ∃ a h1, r = .ok a h1 ∧ f a h1 = .ok b h := by
  cases r with
  | ok a h1 => exact ⟨a, h1, rfl, e⟩
  | exc x h => cases e
  | stuck => cases e
theorem ofO_ok_inv {α : Type} {o : Option α} {a : α} {h h' : AH} (e : ofO h o = .ok a h') : o = some a ∧ h = h' := by
  cases o with
  | none => cases e
  | some b =>
    cases e
    exact ⟨rfl, rfl⟩
theorem cmp_bl {o : COp} {a' b' : Z.E} (ρ : Env) (h : AH) (v : PV) (h' : AH) (e : evE C (.cmp o a' b') ρ h = .ok v h') : ∃ b, v = .bl b := by
  have e' : ((evE C a' ρ h).bnd fun x h1 => (evE C b' ρ h1).bnd fun y h2 => ofO h2 ((cmpV h2 o x y).map .bl)) = .ok v h' := e
  obtain ⟨x, h1, _, e1⟩ := bnd_ok_inv e'
  obtain ⟨y, h2, _, e2⟩ := bnd_ok_inv e1
  obtain ⟨e3, _⟩ := ofO_ok_inv e2
  obtain ⟨b, _, q⟩ := bl_of e3
  exact ⟨b, q⟩
theorem zCmpPT (hK : X.K = W.K) (hu : X.A.units + 64 < cLine) {a b : Expr} {a' b' : Z.E} (o : COp) (ha : PE X a (tE W E (evE C a'))) (hb : PE X b (tE W E (evE C b'))) (hm : behindInMarks (cmpOf o) b = false) :
    PT X (.Compare a [cmpOf o] [b] pos) (tT W E (tstR (evE C (.cmp o a' b')))) :=
  zCmpT (pt_cmpR (opCmp hK hu o) ha hb hm) (fun σ H Q q => tE2 (k := fun x y h => ofO h ((cmpV h o x y).map .bl)) q) cmp_bl
theorem chain_bl {o p : COp} {a' b' c' : Z.E} (ρ : Env) (h : AH) (v : PV) (h' : AH) (e : evE C (.chain o p a' b' c') ρ h = .ok v h') : ∃ b, v = .bl b := by
  have e' : ((evE C a' ρ h).bnd fun x h1 => (evE C b' ρ h1).bnd fun y h2 => match cmpV h2 o x y with
    | some true => (evE C c' ρ h2).bnd fun z h3 => ofO h3 ((cmpV h3 p y z).map .bl)
    | some false => .ok (.bl false) h2
    | none => .stuck) = .ok v h' := e
  obtain ⟨x, h1, _, e1⟩ := bnd_ok_inv e'
  obtain ⟨y, h2, _, e2⟩ := bnd_ok_inv e1
  cases q : cmpV h2 o x y with
  | none =>
    rw [q] at e2
    cases e2
  | some k =>
    rw [q] at e2
    cases k with
    | false =>
      cases e2
      exact ⟨false, rfl⟩
    | true =>
      obtain ⟨w, h3, _, e3⟩ := bnd_ok_inv e2
      obtain ⟨e4, _⟩ := ofO_ok_inv e3
      obtain ⟨b, _, q⟩ := bl_of e4
      exact ⟨b, q⟩
theorem zNot (hK : X.K = W.K) {a : Expr} {a' : Z.E} (ha : PE X a (tE W E (evE C a'))) : PE X (.UnaryOp .Not a pos) (tE W E (evE C (.not a'))) := by
  refine (pe_notT ha).imp fun σ H Q ⟨z, ρ, h, re, rh, p⟩ => ?_
  have p' : Post W z E ((evE C a' ρ h).bnd fun x h1 => match tru h1 x with
      | some k => .ok (.bl !k) h1
      | none => .stuck) (KV W Q) := p
  refine ⟨z, ρ, h, re, rh, p'.bnd.imp fun z1 x h1 H1 l1 R1 p1 v1 r1 => ?_⟩
  cases e : tru h1 x with
  | none =>
    rw [e] at p1
    exact p1.elim
  | some k =>
    rw [e] at p1
    exact ⟨k, by rw [hK]; exact truV R1 r1 e, Post.ok p1 R1 (.bl !k) rfl⟩
theorem zNotPT {a : Expr} {a' : Z.E} (ha : PT X a (tT W E (tstR (evE C a')))) : PT X (.UnaryOp .Not a pos) (tT W E (tstR (evE C (.not a')))) := by
  refine (pt_not ha).imp fun σ H Q ⟨z, ρ, h, re, rh, p⟩ => ?_
  have q := tstR_bl p
  have q' : Post W z E ((evE C a' ρ h).bnd fun x h1 => match tru h1 x with
      | some k => .ok (.bl !k) h1
      | none => .stuck) fun z' v h' H' => ∃ b, tru h' v = some b ∧ Q b H' := q
  refine ⟨z, ρ, h, re, rh, ?_⟩
  show Post W z E ((evE C a' ρ h).bnd fun v h1 => ofO h1 (tru h1 v)) _
  have q2 := q'.bnd
  cases e : evE C a' ρ h with
  | stuck =>
    rw [e] at q2
    exact q2
  | exc x h =>
    rw [e] at q2
    exact q2
  | ok x h1 =>
    rw [e] at q2
    rw [Res.bnd_ok]
    cases e2 : tru h1 x with
    | none =>
      have q3 := q'
      rw [e, Res.bnd_ok, e2] at q3
      exact q3
    | some k =>
      intro z' H' l R
      have q3 := q'
      rw [e, Res.bnd_ok, e2] at q3
      obtain ⟨b, e3, q4⟩ := q3 z' H' l R
      cases e3
      exact q4
theorem zNeg {a : Expr} {a' : Z.E} (ha : PE X a (tE W E (evE C a'))) : PE X (.UnaryOp .USub a pos) (tE W E (evE C (.neg a'))) := by
  refine (pe_un un_neg ha).imp fun σ H Q ⟨z, ρ, h, re, rh, p⟩ => ?_
  have p' : Post W z E ((evE C a' ρ h).bnd fun x h1 => match x with
    | .int i => .ok (.int (-i)) h1
    | _ => .stuck) (KV W Q) := p
  refine ⟨z, ρ, h, re, rh, p'.bnd.imp fun z1 x h1 H1 l1 R1 p1 v1 r1 => ?_⟩
  cases x with
  | int i => exact ⟨i, r1, Post.ok p1 R1 (.int (-i)) rfl⟩
  | _ => exact p1.elim
theorem zIfe {c a b : Expr} {c' a' b' : Z.E} (hc : PT X c (tT W E (tstR (evE C c')))) (ha : PE X a (tE W E (evE C a'))) (hb : PE X b (tE W E (evE C b'))) : PE X (.IfExp c a b pos) (tE W E (evE C (.ife c' a' b'))) := by
  refine (pe_ifExp hc ha hb).imp fun σ H Q ⟨z, ρ, h, re, rh, p⟩ => ?_
  have p' : Post W z E ((evE C c' ρ h).bnd fun x h1 => match tru h1 x with
    | some true => evE C a' ρ h1
    | some false => evE C b' ρ h1
    | none => .stuck) (KV W Q) := p
  refine ⟨z, ρ, h, re, rh, ?_⟩
  show Post W z E ((evE C c' ρ h).bnd fun v h1 => ofO h1 (tru h1 v)) _
  have q := p'.bnd
  cases e : evE C c' ρ h with
  | stuck =>
    rw [e] at q
    exact q
  | exc x h =>
    rw [e] at q
    exact q
  | ok x h1 =>
    rw [e] at q p'
    rw [Res.bnd_ok] at p' ⊢
    cases e2 : tru h1 x with
    | none =>
      rw [e2] at p'
      exact p'
    | some k =>
      rw [e2] at p'
      intro z' H' l R
      cases k with
      | true =>
        rw [if_pos rfl]
        exact ⟨z', ρ, h1, re.mono l, R, Post.mono l p'⟩
      | false =>
        rw [if_neg (by decide)]
        exact ⟨z', ρ, h1, re.mono l, R, Post.mono l p'⟩
end
end Z
-- Z11
set_option Elab.async false
set_option linter.all false
set_option maxRecDepth 100000
set_option maxHeartbeats 1000000
/-! Layer Z, part 11: and, or; calls; slices; methods. -/
namespace Z
open PySem PySem.Spec PyProof.Rows L2
inductive Fa {α β : Type} (R : α → β → Prop) : List α → List β → Prop
  | nil : Fa R [] []
  | cons {a b as bs} : R a b → Fa R as bs → Fa R (a :: as) (b :: bs)
theorem Fa.length {α β : Type} {R : α → β → Prop} : ∀ {as : List α} {bs : List β}, Fa R as bs → as.length = bs.length
  | _, _, .nil => rfl
  | _, _, .cons _ r => by rw [List.length_cons, List.length_cons, r.length]
def isStar : Expr → Bool
  | .Starred _ _ => true
  | _ => false
theorem starNo {e : Expr} {es : List Expr} {env : PySem.Env} (h : isStar e = false) : starEach (e :: es) env = (false, eval e env) :: starEach es env := by
  cases e <;> first | rfl | cases h
section
variable {X : Cx} {W : Sta} {E : XK} {C : Ctx} {σ : L2.St} {H : Hp} {pos : Pos}
/-- an expression does what e' says: as a value, as a test -/
structure Zx (X : Cx) (W : Sta) (E : XK) (C : Ctx) (e : Expr) (e' : Z.E) : Prop where
  pe : PE X e (tE W E (evE C e'))
  pt : PT X e (tT W E (tstR (evE C e')))
  ns : isStar e = false
abbrev Zxs (X : Cx) (W : Sta) (E : XK) (C : Ctx) (es : List Expr) (es' : List Z.E) : Prop := Fa (Zx X W E C) es es'
theorem zArgs : ∀ {es : List Expr} {es' : List Z.E}, Zxs X W E C es es' → PA X es (tA W E (evEs C es'))
  | _, _, .nil => zNil
  | _, _, .cons a r => zCons a.pe (zArgs r) (starNo a.ns)
theorem noStars : ∀ {es : List Expr} {es' : List Z.E}, Zxs X W E C es es' → (backTo pos (starEach es X.env)).any (·.1) = false
  | _, _, .nil => rfl
  | _, _, .cons a r => by
    rw [starNo a.ns]
    exact noStars r
/-- the test of a conjunction's rest -/
theorem post_tst {z : Zn} {ρ : Env} {h : AH} {f : Env → AH → Res PV} {K : Zn → Bool → AH → Hp → Prop} : Post W z E (tstR f ρ h) K ↔ Post W z E ((f ρ h).bnd fun v h1 => ofO h1 (tru h1 v)) K := Iff.rfl
theorem zAnd (hK : X.K = W.K) : ∀ {es : List Expr} {es' : List Z.E}, Zxs X W E C es es' → es ≠ [] → PE X (.BoolOp .And es pos) (tE W E (evAnd C es')) ∧ PW X (.BoolOp .And es pos) (tT W E (tstR (evAnd C es')))
  | _, _, .nil, n => (n rfl).elim
  | _, _, .cons a .nil, _ => ⟨pe_one a.pe, pw_and1 a.pt⟩
  | _, _, .cons (a := e) (b := e') a (.cons (a := e2) (b := e2') (as := r) (bs := r') b c), _ => by
    obtain ⟨ih1, ih2⟩ := zAnd hK (.cons b c) (by simp)
    refine ⟨(pe_andT a.pe ih1).imp fun σ H Q ⟨z, ρ, h, re, rh, p⟩ => ?_, (pw_and a.pt ih2).imp' fun σ H Q ⟨z, ρ, h, re, rh, p⟩ => ?_⟩
    · have p' : Post W z E ((evE C e' ρ h).bnd fun v h1 => match tru h1 v with
        | some true => evAnd C (e2' :: r') ρ h1
        | some false => .ok v h1
        | none => .stuck) (KV W Q) := p
      refine ⟨z, ρ, h, re, rh, p'.bnd.imp fun z1 v h1 H1 l1 R1 p1 v1 r1 => ?_⟩
      cases q : tru h1 v with
      | none =>
        rw [q] at p1
        exact p1.elim
      | some k =>
        rw [q] at p1
        refine ⟨k, by rw [hK]; exact truV R1 r1 q, ?_⟩
        cases k with
        | true =>
          rw [if_pos rfl]
          exact ⟨z1, ρ, h1, re.mono l1, R1, p1⟩
        | false =>
          rw [if_neg (by decide)]
          exact Post.ok p1 R1 v1 r1
    · have p' : Post W z E (((evE C e' ρ h).bnd fun v h1 => match tru h1 v with
        | some true => evAnd C (e2' :: r') ρ h1
        | some false => .ok v h1
        | none => .stuck).bnd fun v h1 => ofO h1 (tru h1 v)) fun _ b _ H' => Q b H' := p
      refine ⟨z, ρ, h, re, rh, ?_⟩
      show Post W z E ((evE C e' ρ h).bnd fun v h1 => ofO h1 (tru h1 v)) _
      cases q0 : evE C e' ρ h with
      | stuck =>
        rw [q0] at p'
        exact p'
      | exc x h =>
        rw [q0] at p'
        exact p'
      | ok v h1 =>
        rw [q0, Res.bnd_ok] at p'
        rw [Res.bnd_ok]
        cases q : tru h1 v with
        | none =>
          rw [q] at p'
          exact p'
        | some k =>
          rw [q] at p'
          intro z1 H1 l1 R1
          cases k with
          | true =>
            rw [if_pos rfl]
            exact ⟨z1, ρ, h1, re.mono l1, R1, Post.mono l1 p'⟩
          | false =>
            rw [if_neg (by decide)]
            have p2 : Post W z E (ofO h1 (tru h1 v)) fun _ b _ H' => Q b H' := p'
            rw [q] at p2
            exact p2 z1 H1 l1 R1
theorem zOr (hK : X.K = W.K) : ∀ {es : List Expr} {es' : List Z.E}, Zxs X W E C es es' → es ≠ [] → PE X (.BoolOp .Or es pos) (tE W E (evOr C es')) ∧ PW X (.BoolOp .Or es pos) (tT W E (tstR (evOr C es')))
  | _, _, .nil, n => (n rfl).elim
  | _, _, .cons a .nil, _ => ⟨pe_one a.pe, pw_or1 a.pt⟩
  | _, _, .cons (a := e) (b := e') a (.cons (a := e2) (b := e2') (as := r) (bs := r') b c), _ => by
    obtain ⟨ih1, ih2⟩ := zOr hK (.cons b c) (by simp)
    refine ⟨(pe_orT a.pe ih1).imp fun σ H Q ⟨z, ρ, h, re, rh, p⟩ => ?_, (pw_or a.pt ih2).imp' fun σ H Q ⟨z, ρ, h, re, rh, p⟩ => ?_⟩
    · have p' : Post W z E ((evE C e' ρ h).bnd fun v h1 => match tru h1 v with
        | some true => .ok v h1
        | some false => evOr C (e2' :: r') ρ h1
        | none => .stuck) (KV W Q) := p
      refine ⟨z, ρ, h, re, rh, p'.bnd.imp fun z1 v h1 H1 l1 R1 p1 v1 r1 => ?_⟩
      cases q : tru h1 v with
      | none =>
        rw [q] at p1
        exact p1.elim
      | some k =>
        rw [q] at p1
        refine ⟨k, by rw [hK]; exact truV R1 r1 q, ?_⟩
        cases k with
        | false =>
          rw [if_neg (by decide)]
          exact ⟨z1, ρ, h1, re.mono l1, R1, p1⟩
        | true =>
          rw [if_pos rfl]
          exact Post.ok p1 R1 v1 r1
    · have p' : Post W z E (((evE C e' ρ h).bnd fun v h1 => match tru h1 v with
        | some true => .ok v h1
        | some false => evOr C (e2' :: r') ρ h1
        | none => .stuck).bnd fun v h1 => ofO h1 (tru h1 v)) fun _ b _ H' => Q b H' := p
      refine ⟨z, ρ, h, re, rh, ?_⟩
      show Post W z E ((evE C e' ρ h).bnd fun v h1 => ofO h1 (tru h1 v)) _
      cases q0 : evE C e' ρ h with
      | stuck =>
        rw [q0] at p'
        exact p'
      | exc x h =>
        rw [q0] at p'
        exact p'
      | ok v h1 =>
        rw [q0, Res.bnd_ok] at p'
        rw [Res.bnd_ok]
        cases q : tru h1 v with
        | none =>
          rw [q] at p'
          exact p'
        | some k =>
          rw [q] at p'
          intro z1 H1 l1 R1
          cases k with
          | false =>
            rw [if_neg (by decide)]
            exact ⟨z1, ρ, h1, re.mono l1, R1, Post.mono l1 p'⟩
          | true =>
            rw [if_pos rfl]
            have p2 : Post W z E (ofO h1 (tru h1 v)) fun _ b _ H' => Q b H' := p'
            rw [q] at p2
            exact p2 z1 H1 l1 R1
/-! ### slices -/
def slPart (C : Ctx) (a : List Z.E) (lo : Option Expr) (X : Cx) (W : Sta) (E : XK) : Prop := match lo, a with
  | none, [] => True
  | some e, [e'] => PE X e (tE W E (evE C e'))
  | _, _ => False
def tPt (W : Sta) (E : XK) (f : Env → AH → Res (Option Int)) : TO := fun σ H Q => ∃ z ρ h, RE W z ρ σ ∧ RH W z h H ∧ Post W z E (f ρ h) fun _ b _ H' => Q b H'
theorem poPart {a : List Z.E} {lo : Option Expr} (hp : slPart C a lo X W E) : PO X lo (tPt W E (evP C a)) := by
  cases lo with
  | none =>
    cases a with
    | nil =>
      refine ⟨fun pins s σ H Q I ⟨z, ρ, h, re, rh, p⟩ => po_none.run pins s σ H Q I ?_⟩
      have p' : Post W z E (.ok none h) fun _ b _ H' => Q b H' := p
      exact Post.ok p' rh
    | cons _ _ => exact hp.elim
  | some e =>
    cases a with
    | nil => exact hp.elim
    | cons e' r =>
      cases r with
      | cons _ _ => exact hp.elim
      | nil =>
        refine ⟨fun pins s σ H Q I ⟨z, ρ, h, re, rh, p⟩ => (po_some hp).run pins s σ H Q I ?_⟩
        have p' : Post W z E ((evE C e' ρ h).bnd fun v h1 => match v with
          | .int i => .ok (some i) h1
          | _ => .stuck) fun _ b _ H' => Q b H' := p
        refine ⟨z, ρ, h, re, rh, p'.bnd.imp fun z1 v h1 H1 l1 R1 p1 v1 r1 => ?_⟩
        cases v with
        | int i => exact ⟨i, r1, Post.ok p1 R1⟩
        | _ => exact p1.elim
theorem zSlc (hK : X.K = W.K) {e : Expr} {e' : Z.E} {lo hi : Option Expr} {a b : List Z.E} {p2 : Pos} (he : PE X e (tE W E (evE C e'))) (hl : slPart C a lo X W E) (hu : slPart C b hi X W E) : PE X (.Subscript e (.Slice lo hi none p2) pos) (tE W E (evE C (.slc e' a b))) := by
  refine (pe_slice (slSlc (E := E) hK) he (poPart hl) (poPart hu)).imp fun σ H Q ⟨z, ρ, h, re, rh, p⟩ => ?_
  have p' : Post W z E ((evE C e' ρ h).bnd fun x h1 => (evP C a ρ h1).bnd fun y h2 => (evP C b ρ h2).bnd fun z h3 => ofO h3 (slcV h3 x y z)) (KV W Q) := p
  refine ⟨z, ρ, h, re, rh, p'.bnd.imp fun z1 x h1 H1 l1 R1 p1 v1 r1 => ?_⟩
  refine ⟨z1, ρ, h1, re.mono l1, R1, p1.bnd.imp fun z2 y h2 H2 l2 R2 p2 => ?_⟩
  refine ⟨z2, ρ, h2, (re.mono l1).mono l2, R2, p2.bnd.imp fun z3 u h3 H3 l3 R3 p3 => ?_⟩
  exact ⟨z3, x, h3, RV.mono l3 _ _ (RV.mono l2 _ _ r1), R3, p3⟩
end
end Z
-- Z12
set_option Elab.async false
set_option linter.all false
set_option maxRecDepth 100000
set_option maxHeartbeats 1000000
/-! Layer Z, part 12: calls of built-in things, methods of lists and texts, list(..). -/
namespace Z
open PySem PySem.Spec PyProof.Rows L2
section
variable {X : Cx} {W : Sta} {E : XK} {C : Ctx} {σ : L2.St} {H : Hp} {pos : Pos}
theorem grd_ok {α : Type} {z : Zn} {c : Bool} {r : Res α} {K : Zn → α → AH → Hp → Prop} (p : Post W z E (grd c r) K) : c = true ∧ Post W z E r K := by
  cases c with
  | true => exact ⟨rfl, p⟩
  | false => exact p.elim
def biName : BI → Str
  | .len => "len"
  | .int => "int"
  | .str => "str"
  | .tuple => "tuple"
  | .all => "all"
  | .any => "any"
  | .min => "min"
  | .max => "max"
  | .sum => "sum"
  | .repr => "repr"
theorem zBi (hK : X.K = W.K) (hc : X.calm = true) {p : Pos} (b : BI) {e : Expr} {es : List Expr} {es' : List Z.E} (hg : Gl X (biName b)) (hm : X.mg (biName b) = none) (hs : Zxs X W E C (e :: es) es') (hb : b ≠ .sum ∧ b ≠ .repr) :
    PE X (.Call (.Name (biName b) p) (e :: es) [] pos) (tE W E (evE C (.bi b es'))) := by
  have ns : isStar e = false := by
    cases hs with
    | cons a r => exact a.ns
  have nss : (backTo pos (starEach es X.env)).any (·.1) = false := by
    cases hs with
    | cons a r => exact noStars r
  have fin : ∀ t : TE, (∀ σ H Q, tCB (rs W E fun vs h => ofO h (biV h b vs)) (tA W E (evEs C es')) σ H Q → t σ H Q) → PE X (.Call (.Name (biName b) p) (e :: es) [] pos) (tCB (rs W E fun vs h => ofO h (biV h b vs)) (tA W E (evEs C es'))) → PE X (.Call (.Name (biName b) p) (e :: es) [] pos) (tE W E (evE C (.bi b es'))) :=
    fun t _ h => h.imp fun σ H Q q => tEs (k := fun vs h => ofO h (biV h b vs)) q
  refine fin _ (fun _ _ _ q => q) ?_
  cases b with
  | len => exact pe_callB (biLen (E := E) hK) hg hm (by decide +kernel) (zArgs hs) (by decide) (by decide) (starNo ns) nss
  | int => exact pe_callTy (biInt (E := E)) hg hm (by decide +kernel) (zArgs hs) (by decide) (by decide) (starNo ns) nss
  | str => exact pe_callTy (biStr (E := E)) hg hm (by decide +kernel) (zArgs hs) (by decide) (by decide) (starNo ns) nss
  | tuple => exact pe_callTy (biTuple (E := E) hK) hg hm (by decide +kernel) (zArgs hs) (by decide) (by decide) (starNo ns) nss
  | all => exact pe_callB (biAll (E := E) hc) hg hm (by decide +kernel) (zArgs hs) (by decide) (by decide) (starNo ns) nss
  | any => exact pe_callB (biAny (E := E) hc) hg hm (by decide +kernel) (zArgs hs) (by decide) (by decide) (starNo ns) nss
  | min => exact pe_callB (biMin (E := E) hc) hg hm (by decide +kernel) (zArgs hs) (by decide) (by decide) (starNo ns) nss
  | max => exact pe_callB (biMax (E := E) hc) hg hm (by decide +kernel) (zArgs hs) (by decide) (by decide) (starNo ns) nss
  | sum => exact absurd rfl hb.1
  | repr => exact absurd rfl hb.2
/-- list(e) -/
theorem zListof (hK : X.K = W.K) {p : Pos} {e : Expr} {e' : Z.E} (hg : Gl X "list") (hm : X.mg "list" = none) (he : Zx X W E C e e') : PE X (.Call (.Name "list" p) [e] [] pos) (tAl W E (evA C (.listof e'))) := by
  refine (pe_callTy call_list_of hg hm (by decide +kernel) (zArgs (.cons he .nil)) (by decide) (by decide) (starNo he.ns) rfl).imp fun σ H Q ⟨z, ρ, h, re, rh, p⟩ => ?_
  have p' : Post W z E ((evE C e' ρ h).bnd fun x h1 => ofO h1 ((seqOf h1 x).map .lst)) (KA W Q) := p
  refine ⟨z, ρ, h, re, rh, ?_⟩
  show Post W z E ((evE C e' ρ h).bnd fun v h1 => (Res.ok [] h1).bnd fun vs h2 => .ok (v :: vs) h2) _
  have q := p'.bnd
  cases q0 : evE C e' ρ h with
  | stuck =>
    rw [q0] at q
    exact q
  | exc x h =>
    rw [q0] at q
    exact q
  | ok v h1 =>
    rw [q0] at q
    intro z1 H1 l1 R1 vs' r
    have p1 := q z1 H1 l1 R1
    obtain ⟨ys, e, p2⟩ := ofO_map p1
    obtain ⟨x, rfl, rx⟩ := rvs1 r rfl
    obtain ⟨q9, vs, rfl, hq, r9⟩ := lkSq R1 rx e
    exact ⟨q9, vs, rfl, by rw [hK]; exact hq, fun l n => (Post.ok (K := KA W Q) p2 R1) l (.lst vs) n ⟨vs, rfl, r9⟩⟩

/-! ### methods -/
/-- a receiver and its arguments in -/
def rm (W : Sta) (E : XK) (m : Nat) : V → List V → Hp → VK → Prop := fun x xs H Q => ∃ z a as h, RV W z a x ∧ RVs W z as xs ∧ RH W z h H ∧ Post W z E (methV h a m as) (KV W Q)
def mTy (m : Nat) : String := if m ≤ 6 then "list" else if m = 7 ∨ m = 10 then "dict" else "str"
theorem tyOf (hK : X.K = W.K) {z : Zn} {h : AH} {a : PV} {x : V} {m : Nat} (R : RH W z h H) (r : RV W z a x) (e : rcv h a m = true) : tyV X.K (mTy m) x H := by
  cases a with
  | ref i =>
    unfold rcv at e
    simp only at e
    split at e
    · rename_i ys hy
      obtain ⟨p, _, rfl, vs, q, _⟩ := refMO R r hy
      have hm : m ≤ 6 := of_decide_eq_true e
      unfold mTy
      rw [if_pos hm]
      exact .inl ⟨rfl, vs, SqL.of q⟩
    · rename_i ks ws hy
      obtain ⟨p, _, rfl, kvs, q, _⟩ := refMO R r hy
      simp only [Bool.or_eq_true, decide_eq_true_eq] at e
      unfold mTy
      rw [if_neg (by omega), if_pos e]
      exact .inr (.inr (.inl ⟨rfl, .inl ⟨kvs, q⟩⟩))
    · cases e
  | lst ys =>
    obtain ⟨p, vs, rfl, q, _⟩ := r
    have hm : m ≤ 6 := of_decide_eq_true e
    unfold mTy
    rw [if_pos hm]
    exact .inl ⟨rfl, vs, SqL.of (R.fz _ _ q)⟩
  | dct _ _ =>
    obtain ⟨p, kvs, rfl, q, _⟩ := r
    have hm : m = 7 := of_decide_eq_true e
    unfold mTy
    rw [if_neg (by omega), if_pos (.inl hm)]
    exact .inr (.inr (.inl ⟨rfl, .inl ⟨kvs, R.fz _ _ q⟩⟩))
  | str t =>
    obtain ⟨rfl, _, _⟩ := r
    have hm : (decide (m = 8) || decide (m = 9) || decide (m = 11)) = true := e
    simp only [Bool.or_eq_true, decide_eq_true_eq] at hm
    unfold mTy
    rw [if_neg (by omega), if_neg (by omega)]
    rfl
  | _ => cases e
theorem tMeth {o' : Z.E} {es' : List Z.E} {m : Nat} (hK : X.K = W.K) {Q : VK} (q : tE W E (evE C (.meth o' m es')) σ H Q) : tBM X.K (mTy m) (rm W E m) (tE W E (evE C o')) (tA W E (evEs C es')) σ H Q := by
  obtain ⟨z, ρ, h, re, rh, p⟩ := q
  have p' : Post W z E ((evE C o' ρ h).bnd fun x h1 => grd (rcv h1 x m) ((evEs C es' ρ h1).bnd fun vs h2 => methV h2 x m vs)) (KV W Q) := p
  refine ⟨z, ρ, h, re, rh, p'.bnd.imp fun z1 x h1 H1 l1 R1 p1 v1 r1 => ?_⟩
  obtain ⟨g, p1⟩ := grd_ok p1
  refine ⟨tyOf hK R1 r1 g, z1, ρ, h1, re.mono l1, R1, p1.bnd.imp fun z2 vs h2 H2 l2 R2 p2 us r2 => ?_⟩
  exact ⟨z2, x, vs, h2, RV.mono l2 _ _ r1, r2, R2, p2⟩
theorem mutL_ok {z : Zn} {h : AH} {o : PV} {x : V} {f : Nat → List PV → Res PV} {K : Zn → PV → AH → Hp → Prop} (R : RH W z h H) (r : RV W z o x) (p : Post W z E (mutL h o f) K) :
    ∃ i xs a vs, o = .ref i ∧ z.mp[i]? = some a ∧ x = .ref a ∧ H a = some (.lst vs) ∧ RVs W z xs vs ∧ Post W z E (f i xs) K := by
  cases o with
  | ref i =>
    unfold mutL at p
    simp only at p
    split at p
    · rename_i ys hy
      obtain ⟨pa, hp, rfl, vs, q, r9⟩ := refMO R r hy
      exact ⟨i, ys, pa, vs, rfl, hp, rfl, q, r9, p⟩
    · exact p.elim
  | _ => exact p.elim
theorem one_ok {z : Zn} {vs : List PV} {us : List V} {f : PV → Res PV} {K : Zn → PV → AH → Hp → Prop} (r : RVs W z vs us) (p : Post W z E (one vs f) K) : ∃ y u, vs = [y] ∧ us = [u] ∧ RV W z y u ∧ Post W z E (f y) K := by
  match vs, r, p with
  | [], _, p => exact p.elim
  | _ :: _ :: _, _, p => exact p.elim
  | [y], r, p =>
    obtain ⟨u, rfl, ru⟩ := rvs1 r rfl
    exact ⟨y, u, rfl, rfl, ru, p⟩
theorem zero_ok {z : Zn} {vs : List PV} {us : List V} {q : Res PV} {K : Zn → PV → AH → Hp → Prop} (r : RVs W z vs us) (p : Post W z E (zero vs q) K) : us = [] ∧ Post W z E q K := by
  match vs, r, p with
  | [], r, p => exact ⟨r, p⟩
  | _ :: _, _, p => exact p.elim
theorem onO_ok {α : Type} {z : Zn} {o : Option α} {f : α → Res PV} {K : Zn → PV → AH → Hp → Prop} (p : Post W z E (onO o f) K) : ∃ a, o = some a ∧ Post W z E (f a) K := by
  cases o with
  | none => exact p.elim
  | some a => exact ⟨a, rfl, p⟩
theorem asL_ok {v : PV} {xs : List PV} (e : asL v = some xs) : v = .lst xs := by
  cases v <;> cases e
  rfl
theorem asS_ok {v : PV} {xs : List Nat} (e : asS v = some xs) : v = .str xs := by
  cases v <;> cases e
  rfl
theorem mtAppend : MtR X "list.append" (rm W E 1) := by
  intro pins s σ H x xs v us Q I rx rxs ⟨z, a, as, h, ra, ras, R, p⟩
  obtain ⟨i, ys, pa, vs, rfl, hp, rfl, q, r9, p⟩ := mutL_ok R ra p
  obtain ⟨y, y', rfl, rfl, ry, p⟩ := one_ok ras p
  obtain ⟨g, p⟩ := grd_ok p
  refine mt_append pins s σ H _ _ v us Q I rx rxs ⟨pa, vs, y', rfl, rfl, q, ?_, ?_⟩
  · rw [← r9.length]
    have := of_decide_eq_true g
    rw [zLine_eq] at this
    exact this
  · exact Post.ok (K := KV W Q) p (R.setMp hp ⟨_, upd_same, r9.append (RVs.cons ry RVs.nil)⟩) .non rfl
theorem mtExtend : MtR X "list.extend" (rm W E 2) := by
  intro pins s σ H x xs v us Q I rx rxs ⟨z, a, as, h, ra, ras, R, p⟩
  obtain ⟨i, ys, pa, vs, rfl, hp, rfl, q, r9, p⟩ := mutL_ok R ra p
  obtain ⟨y, y', rfl, rfl, ry, p⟩ := one_ok ras p
  obtain ⟨zs, e, p⟩ := onO_ok p
  obtain ⟨g, p⟩ := grd_ok p
  obtain ⟨b, ws, rfl, hb, rb⟩ := lkL R ry (asL_ok e)
  refine mt_extend pins s σ H _ _ v us Q I rx rxs ⟨pa, b, vs, ws, rfl, rfl, q, hb, ?_, ?_⟩
  · rw [← r9.length, ← rb.length]
    have := of_decide_eq_true g
    rw [zLine_eq] at this
    exact this
  · exact Post.ok (K := KV W Q) p (R.setMp hp ⟨_, upd_same, r9.append rb⟩) .non rfl
theorem two_ok {z : Zn} {vs : List PV} {us : List V} {f : PV → PV → Res PV} {K : Zn → PV → AH → Hp → Prop} (r : RVs W z vs us) (p : Post W z E (two vs f) K) : ∃ y y2 u u2, vs = [y, y2] ∧ us = [u, u2] ∧ RV W z y u ∧ RV W z y2 u2 ∧ Post W z E (f y y2) K := by
  match vs, r, p with
  | [], _, p => exact p.elim
  | [_], _, p => exact p.elim
  | _ :: _ :: _ :: _, _, p => exact p.elim
  | [y, y2], r, p =>
    obtain ⟨u, u2, rfl, r1, r2⟩ := rvs2 r rfl
    exact ⟨y, y2, u, u2, rfl, rfl, r1, r2, p⟩
theorem mtGet (hu : X.A.units + 64 < cLine) : MtR X "dict.get" (rm W E 7) := by
  intro pins s σ H x xs v us Q I rx rxs ⟨z, a, as, h, ra, ras, R, p⟩
  obtain ⟨y, d, y', d', rfl, rfl, ry, rd, p⟩ := two_ok ras p
  obtain ⟨q, e, p⟩ := onO_ok p
  obtain ⟨g, p⟩ := grd_ok p
  obtain ⟨pa, o, rfl, dg, g1, g2, _⟩ := dgetV R ra e ry g
  obtain ⟨u1, u2, rfl, ru1, ru2⟩ := vals2 rxs
  cases (show v = Value.ref pa from rx)
  refine d_get2 (by omega) I dg ru1 ru2 fun w' s' I' rw' => ⟨o.getD d', H, I', rw', okV R p ?_⟩
  cases eg : getK y q.1 q.2 with
  | none =>
    rw [g2 eg]
    exact rd
  | some pv =>
    obtain ⟨w, rfl, rw2⟩ := g1 pv eg
    exact rw2
/-! ### a dict changes -/
theorem mapK_id {kk : Key} {v : V} : ∀ {r : List (Key × V)}, kk ∉ r.map (·.1) → (r.map fun kv => if kv.1 = kk then (kv.1, v) else kv) = r
  | [], _ => rfl
  | kv :: r, h => by
    simp only [List.map_cons, List.mem_cons, not_or] at h
    rw [List.map_cons, if_neg (fun e => h.1 e.symm), mapK_id h.2]
theorem anyK {kk : Key} {r : List (Key × V)} : (r.any fun kv => decide (kv.1 = kk)) = true ↔ kk ∈ r.map (·.1) := by
  simp only [List.any_eq_true, decide_eq_true_eq, List.mem_map]
theorem putK_eq {kk : Key} {v : V} {p : Key × V} {r : List (Key × V)} (nd : ((p :: r).map (·.1)).Nodup) (e : p.1 = kk) : L2.putK (p :: r) kk v = (kk, v) :: r := by
  unfold L2.putK
  rw [if_pos (by simp [e]), List.map_cons, if_pos e, e]
  congr 1
  refine mapK_id ?_
  rw [List.map_cons, List.nodup_cons, e] at nd
  exact nd.1
theorem putK_ne {kk : Key} {v : V} {p : Key × V} {r : List (Key × V)} (e : p.1 ≠ kk) : L2.putK (p :: r) kk v = p :: L2.putK r kk v := by
  unfold L2.putK
  rw [List.any_cons, decide_eq_false e, Bool.false_or]
  split
  · rw [List.map_cons, if_neg e]
  · rfl
theorem putK_keys {kk : Key} {v : V} : ∀ {r : List (Key × V)} {k : Key}, k ∈ (L2.putK r kk v).map (·.1) → k = kk ∨ k ∈ r.map (·.1)
  | [], k, h => by
    have : L2.putK ([] : List (Key × V)) kk v = [(kk, v)] := rfl
    rw [this] at h
    simp at h
    exact .inl h
  | p :: r, k, h => by
    by_cases e : p.1 = kk
    · by_cases q : (L2.putK (p :: r) kk v) = (L2.putK (p :: r) kk v)
      · unfold L2.putK at h
        rw [if_pos (by simp [e])] at h
        rw [List.map_map] at h
        obtain ⟨kv, h1, h2⟩ := List.mem_map.mp h
        right
        refine List.mem_map.mpr ⟨kv, h1, ?_⟩
        rw [← h2]
        show _ = (if kv.1 = kk then (kv.1, v) else kv).1
        split <;> rfl
      · exact absurd rfl q
    · rw [putK_ne e] at h
      rw [List.map_cons, List.mem_cons] at h
      rcases h with h | h
      · right
        rw [h, List.map_cons]
        exact List.mem_cons_self ..
      · rcases putK_keys h with q | q
        · exact .inl q
        · right
          rw [List.map_cons]
          exact List.mem_cons_of_mem _ q
theorem putK_ok {z : Zn} {a pv : PV} {kk : Key} {v : V} (hk : ∀ b y, RV W z b (L2.kV y) → eqP b a = decide (y = kk)) (ra : RV W z a (L2.kV kk)) (rv : RV W z pv v) : ∀ {kvs : List (Key × V)} {ks vs : List PV}, (kvs.map (·.1)).Nodup → RVs W z ks (kvs.map fun q => L2.kV q.1) → RVs W z vs (kvs.map (·.2)) →
    ((L2.putK kvs kk v).map (·.1)).Nodup ∧ RVs W z (Z.putK a pv ks vs).1 ((L2.putK kvs kk v).map fun q => L2.kV q.1) ∧ RVs W z (Z.putK a pv ks vs).2 ((L2.putK kvs kk v).map (·.2))
  | [], ks, vs, nd, r1, r2 => by
    have e : L2.putK ([] : List (Key × V)) kk v = [(kk, v)] := rfl
    cases ks with
    | nil =>
      rw [e]
      exact ⟨by simp, RVs.cons ra RVs.nil, RVs.cons rv RVs.nil⟩
    | cons _ _ =>
      obtain ⟨_, _, e, _⟩ := r1
      cases e
  | p :: r, ks, vs, nd, r1, r2 => by
    cases ks with
    | nil => cases r1
    | cons b ks =>
      cases vs with
      | nil => cases r2
      | cons w vs =>
        obtain ⟨v1, t1, e1, q1, q2⟩ := r1
        obtain ⟨v2, t2, e2, q3, q4⟩ := r2
        cases e1
        cases e2
        have nd' := nd
        rw [List.map_cons, List.nodup_cons] at nd'
        have hb := hk b p.1 q1
        by_cases q : p.1 = kk
        · rw [decide_eq_true q] at hb
          have e3 : Z.putK a pv (b :: ks) (w :: vs) = (b :: ks, pv :: vs) := by
            unfold Z.putK
            rw [if_pos hb]
          rw [putK_eq nd q, e3, ← q]
          exact ⟨nd, RVs.cons q1 q2, RVs.cons rv q4⟩
        · rw [decide_eq_false q] at hb
          have e3 : Z.putK a pv (b :: ks) (w :: vs) = (b :: (Z.putK a pv ks vs).1, w :: (Z.putK a pv ks vs).2) := by
            rw [Z.putK, if_neg (by rw [hb]; decide)]
          obtain ⟨i1, i2, i3⟩ := putK_ok hk ra rv nd'.2 q2 q4
          rw [putK_ne q, e3]
          refine ⟨?_, RVs.cons q1 i2, RVs.cons q3 i3⟩
          rw [List.map_cons, List.nodup_cons]
          refine ⟨fun m => ?_, i1⟩
          rcases putK_keys m with m | m
          · exact q m
          · exact nd'.1 m
theorem dropK_id {kk : Key} : ∀ {r : List (Key × V)}, kk ∉ r.map (·.1) → L2.dropK r kk = r
  | [], _ => rfl
  | kv :: r, h => by
    simp only [List.map_cons, List.mem_cons, not_or] at h
    have ih := dropK_id (kk := kk) h.2
    unfold L2.dropK at *
    rw [List.filter_cons, if_pos (by simpa using fun e => h.1 e.symm), ih]
theorem delK_ok {z : Zn} {a : PV} {kk : Key} (hk : ∀ b y, RV W z b (L2.kV y) → eqP b a = decide (y = kk)) : ∀ {kvs : List (Key × V)} {ks vs : List PV}, (kvs.map (·.1)).Nodup → RVs W z ks (kvs.map fun q => L2.kV q.1) → RVs W z vs (kvs.map (·.2)) →
    ((L2.dropK kvs kk).map (·.1)).Nodup ∧ RVs W z (delK a ks vs).1 ((L2.dropK kvs kk).map fun q => L2.kV q.1) ∧ RVs W z (delK a ks vs).2 ((L2.dropK kvs kk).map (·.2))
  | [], ks, vs, nd, r1, r2 => by
    cases ks with
    | nil => exact ⟨nd, RVs.nil, RVs.nil⟩
    | cons _ _ =>
      obtain ⟨_, _, e, _⟩ := r1
      cases e
  | p :: r, ks, vs, nd, r1, r2 => by
    cases ks with
    | nil => cases r1
    | cons b ks =>
      cases vs with
      | nil => cases r2
      | cons w vs =>
        obtain ⟨v1, t1, e1, q1, q2⟩ := r1
        obtain ⟨v2, t2, e2, q3, q4⟩ := r2
        cases e1
        cases e2
        have nd' := nd
        rw [List.map_cons, List.nodup_cons] at nd'
        have hb := hk b p.1 q1
        by_cases q : p.1 = kk
        · rw [decide_eq_true q] at hb
          have e3 : delK a (b :: ks) (w :: vs) = (ks, vs) := by
            unfold delK
            rw [if_pos hb]
          have e4 : L2.dropK (p :: r) kk = r := by
            have := dropK_id (kk := kk) (r := r) (by rw [← q]; exact nd'.1)
            unfold L2.dropK at *
            rw [List.filter_cons, if_neg (by simpa using q), this]
          rw [e3, e4]
          exact ⟨nd'.2, q2, q4⟩
        · rw [decide_eq_false q] at hb
          have e3 : delK a (b :: ks) (w :: vs) = (b :: (delK a ks vs).1, w :: (delK a ks vs).2) := by
            rw [delK, if_neg (by rw [hb]; decide)]
          have e4 : L2.dropK (p :: r) kk = p :: L2.dropK r kk := by
            unfold L2.dropK
            rw [List.filter_cons, if_pos (by simpa using q)]
          obtain ⟨i1, i2, i3⟩ := delK_ok hk nd'.2 q2 q4
          rw [e3, e4]
          refine ⟨?_, RVs.cons q1 i2, RVs.cons q3 i3⟩
          rw [List.map_cons, List.nodup_cons]
          refine ⟨fun m => nd'.1 ?_, i1⟩
          obtain ⟨kv, h1, h2⟩ := List.mem_map.mp m
          exact List.mem_map.mpr ⟨kv, (List.mem_filter.mp h1).1, h2⟩
theorem mutD_ok {z : Zn} {h : AH} {o : PV} {x : V} {f : Nat → List PV → List PV → Res PV} {K : Zn → PV → AH → Hp → Prop} (R : RH W z h H) (r : RV W z o x) (p : Post W z E (mutD h o f) K) :
    ∃ i ks vs a kvs, o = .ref i ∧ z.mp[i]? = some a ∧ x = .ref a ∧ H a = some (.dK kvs) ∧ (kvs.map (·.1)).Nodup ∧ RVs W z ks (kvs.map fun q => L2.kV q.1) ∧ RVs W z vs (kvs.map (·.2)) ∧ Post W z E (f i ks vs) K := by
  cases o with
  | ref i =>
    unfold mutD at p
    simp only at p
    split at p
    · rename_i ks vs hy
      obtain ⟨pa, hp, rfl, kvs, q, nd, r1, r2⟩ := refMO R r hy
      exact ⟨i, ks, vs, pa, kvs, rfl, hp, rfl, q, nd, r1, r2, p⟩
    · exact p.elim
  | _ => exact p.elim
theorem mtDPop : MtR X "dict.pop" (rm W E 10) := by
  intro pins s σ H x xs v us Q I rx rxs ⟨z, a, as, h, ra, ras, R, p⟩
  obtain ⟨i, ks, vs, pa, kvs, rfl, hp, rfl, q, nd, r1, r2, p⟩ := mutD_ok R ra p
  obtain ⟨y, y', rfl, rfl, ry, p⟩ := one_ok ras p
  obtain ⟨g, p⟩ := grd_ok p
  obtain ⟨pv, eg, p⟩ := onO_ok p
  obtain ⟨kk, rfl, hk⟩ := keyV ry g
  obtain ⟨g1, _, _⟩ := getK_ok hk r1 r2
  obtain ⟨w, hw, rw'⟩ := g1 pv eg
  obtain ⟨u, rfl, ru⟩ := vals1 rxs
  cases (show v = Value.ref pa from rx)
  obtain ⟨d1, d2, d3⟩ := delK_ok hk nd r1 r2
  exact d_pop I q ru hw (.inl rfl) fun w' s' I' rw2 => ⟨w, _, I', rw2, Post.ok (K := KV W Q) p (R.setMp hp ⟨_, upd_same, d1, d2, d3⟩) w rw'⟩
theorem RVs.dropLast {z : Zn} {xs : List PV} {vs : List V} (r : RVs W z xs vs) : RVs W z xs.dropLast vs.dropLast := by
  rw [List.dropLast_eq_take, List.dropLast_eq_take, r.length]
  exact r.take _
theorem mtPop : MtR X "list.pop" (rm W E 3) := by
  intro pins s σ H x xs v us Q I rx rxs ⟨z, a, as, h, ra, ras, R, p⟩
  obtain ⟨i, ys, pa, vs, rfl, hp, rfl, q, r9, p⟩ := mutL_ok R ra p
  obtain ⟨rfl, p⟩ := zero_ok ras p
  obtain ⟨y, e, p⟩ := onO_ok p
  rw [List.getLast?_eq_getElem?] at e
  obtain ⟨y', e', ry⟩ := r9.get e
  rw [r9.length] at e'
  exact mt_pop pins s σ H _ _ v us Q I rx rxs ⟨pa, vs, y', rfl, rfl, q, e', Post.ok (K := KV W Q) p (R.setMp hp ⟨_, upd_same, r9.dropLast⟩) y' ry⟩
theorem allS_ok {z : Zn} : ∀ {ys : List PV} {vs : List V} {bs : List (List Nat)}, allS ys = some bs → RVs W z ys vs → vs = bs.map (fun b => V.str (toS b)) ∧ bs.all okS = true
  | [], vs, bs, e, r => by
    cases e
    exact ⟨r, rfl⟩
  | y :: t, vs, bs, e, r => by
    obtain ⟨v, us, rfl, r1, r2⟩ := r
    cases y with
    | str b =>
      unfold allS at e
      cases e1 : allS t with
      | none =>
        rw [e1] at e
        cases e
      | some bs' =>
        rw [e1] at e
        cases e
        obtain ⟨h1, h2⟩ := allS_ok e1 r2
        obtain ⟨rfl, _, o⟩ := r1
        rw [h1]
        exact ⟨rfl, by rw [List.all_cons, o, h2]; rfl⟩
    | _ => cases e
theorem joinL_cons (s : List Nat) : ∀ (x : List Nat) (r : List (List Nat)), joinL s (x :: r) = x ++ (r.map fun p => s ++ p).flatten
  | x, [] => by
    show x = _
    simp
  | x, y :: r => by
    show x ++ s ++ joinL s (y :: r) = _
    rw [joinL_cons s y r]
    simp
theorem foldl_glue (s : List Nat) : ∀ (r : List (List Nat)) (acc : Array Nat), (r.map toS).foldl (fun acc p => acc ++ (toS s).cps ++ p.cps) acc = acc ++ ((r.map fun p => s ++ p).flatten).toArray
  | [], acc => by simp
  | p :: r, acc => by
    rw [List.map_cons, List.foldl_cons, foldl_glue s r]
    simp
theorem join_eq (s : List Nat) (ys : List (List Nat)) : Txt.join (toS s) (ys.map toS) = toS (joinL s ys) := by
  show Builtin.Str.glued _ _ = _
  cases ys with
  | nil => rfl
  | cons x r =>
    unfold Builtin.Str.glued
    rw [List.map_cons, List.drop_one, List.tail_cons, List.headD_cons, foldl_glue, joinL_cons]
    show Str.mk _ = Str.mk _
    congr 1
    simp
theorem sum_joinL (s : List Nat) : ∀ ys : List (List Nat), (ys.map List.length).sum ≤ (joinL s ys).length
  | [] => by simp [joinL]
  | x :: r => by
    rw [joinL_cons]
    have : ∀ r : List (List Nat), (r.map List.length).sum ≤ (r.map fun p => s ++ p).flatten.length := fun r => by
      induction r with
      | nil => simp
      | cons p r ih =>
        simp only [List.map_cons, List.sum_cons, List.flatten_cons, List.length_append]
        omega
    have h := this r
    simp only [List.map_cons, List.sum_cons, List.length_append]
    omega
theorem okS_joinL {s : List Nat} (hs : okS s = true) : ∀ ys : List (List Nat), ys.all okS = true → okS (joinL s ys) = true
  | [], _ => rfl
  | x :: r, h => by
    rw [joinL_cons]
    simp only [List.all_cons, Bool.and_eq_true] at h
    refine okS_app h.1 ?_
    have : ∀ r : List (List Nat), r.all okS = true → okS (r.map fun p => s ++ p).flatten = true := fun r => by
      induction r with
      | nil => intro _; rfl
      | cons p r ih =>
        intro h
        simp only [List.all_cons, Bool.and_eq_true] at h
        simp only [List.map_cons, List.flatten_cons]
        exact okS_app (okS_app hs h.1) (ih h.2)
    exact this r h.2
theorem mtJoin (hK : X.K = W.K) : MtR X "str.join" (rm W E 8) := by
  intro pins s σ H x xs v us Q I rx rxs ⟨z, a, as, h, ra, ras, R, p⟩
  obtain ⟨y, y', rfl, rfl, ry, p⟩ := one_ok ras p
  obtain ⟨t, e, p1⟩ := onO_ok p
  obtain ⟨bs, e2, p2⟩ := onO_ok p1
  obtain ⟨g, p3⟩ := grd_ok p2
  obtain rfl := asS_ok e
  obtain ⟨rfl, tl, to⟩ := ra
  obtain ⟨ys, e3, e4⟩ := Option.bind_eq_some_iff.mp e2
  obtain ⟨b, vs, rfl, hb, rb⟩ := lkSq R ry e3
  obtain ⟨rfl, ob⟩ := allS_ok e4 rb
  refine mt_join pins s σ H _ _ v us Q I rx rxs ⟨toS t, b, bs.map toS, rfl, rfl, ?_, ?_, ?_⟩
  · rw [hK, List.map_map]
    exact hb
  · have h1 := sum_joinL t bs
    have h2 := of_decide_eq_true ((Bool.and_eq_true _ _).mp g).1
    have h3 := of_decide_eq_true ((Bool.and_eq_true _ _).mp g).2
    have h4 : ((bs.map toS).map (·.length)).sum = (bs.map List.length).sum := by
      rw [List.map_map]
      rfl
    rw [h4, List.length_map]
    show _ + bs.length * t.length ≤ _
    omega
  · rw [join_eq]
    have h2 := of_decide_eq_true ((Bool.and_eq_true _ _).mp g).1
    refine Post.ok (K := KV W Q) p3 R _ ⟨rfl, ?_, okS_joinL to bs ob⟩
    rw [sizeLine_eq]
    omega

def isCall : Expr → Bool
  | .Call _ _ _ _ => true
  | _ => false
theorem base_of {o : Expr} (h : isCall o = false) (name : Str) (env : PySem.Env) (t : Sem Value) : attributeBase o name env t = t := by
  cases o <;> first | rfl | cases h
variable {o : Expr} {o' : Z.E} {apos : Pos} {name : Str} {id : String} {m : Nat}
theorem zMeth0 (hK : X.K = W.K) (pa : PlainAttrs (mTy m)) (slot : Slot (mTy m) name id) (hty : typeOf (.builtin id) = pure (.type "method_descriptor")) (hm : MtR X id (rm W E m)) (ho : Zx X W E C o o') (hb : isCall o = false) (hl : (apos.endLine == pos.line) = true) :
    PE X (.Call (.Attribute o name apos) [] [] pos) (tE W E (evE C (.meth o' m []))) := by
  refine (pe_bm0 pa slot hty hm ho.pe (base_of hb _ _ _) hl).imp fun σ H Q q => ?_
  obtain ⟨z, ρ, h, re, rh, p⟩ := tMeth (es' := []) hK q
  refine ⟨z, ρ, h, re, rh, p.imp fun z1 x h1 H1 l1 R1 p1 v1 r1 => ?_⟩
  obtain ⟨ty, z2, ρ2, h2, re2, rh2, p2⟩ := p1 v1 r1
  have p3 : Post W z2 E (.ok [] h2) _ := p2
  exact ⟨ty, Post.ok p3 rh2 [] RVs.nil⟩
theorem zMeth1 {e : Expr} {e' : Z.E} (hK : X.K = W.K) (pa : PlainAttrs (mTy m)) (slot : Slot (mTy m) name id) (hty : typeOf (.builtin id) = pure (.type "method_descriptor")) (hm : MtR X id (rm W E m)) (ho : Zx X W E C o o') (he : Zx X W E C e e') (hb : isCall o = false) (hl : (apos.endLine == pos.line) = true) :
    PE X (.Call (.Attribute o name apos) [e] [] pos) (tE W E (evE C (.meth o' m [e']))) := by
  refine (pe_bm pa slot hty hm ho.pe (zArgs (.cons he .nil)) (base_of hb _ _ _) (by rw [starNo he.ns]; rfl) hl (starNo he.ns) rfl).imp fun σ H Q q => tMeth hK q
theorem zMeth2 {e d : Expr} {e' d' : Z.E} (hK : X.K = W.K) (pa : PlainAttrs (mTy m)) (slot : Slot (mTy m) name id) (hty : typeOf (.builtin id) = pure (.type "method_descriptor")) (hm : MtR X id (rm W E m)) (ho : Zx X W E C o o') (he : Zx X W E C e e') (hd : Zx X W E C d d') (hb : isCall o = false) (hl : (apos.endLine == pos.line) = true) :
    PE X (.Call (.Attribute o name apos) [e, d] [] pos) (tE W E (evE C (.meth o' m [e', d']))) := by
  refine (pe_bm pa slot hty hm ho.pe (zArgs (.cons he (.cons hd .nil))) (base_of hb _ _ _) (by rw [starNo he.ns, starNo hd.ns]; rfl) hl (starNo he.ns) (by rw [starNo hd.ns]; rfl)).imp fun σ H Q q => tMeth hK q
/-! ### displays of dicts -/
def keyD : PV → Key
  | .int i => .inl i
  | .str x => .inr (toS x)
  | _ => .inl 0
theorem mergeK_app : ∀ {more kvs : List (Key × V)}, ((kvs ++ more).map (·.1)).Nodup → mergeK kvs more = kvs ++ more
  | [], kvs, _ => by
    show kvs = kvs ++ []
    simp
  | p :: r, kvs, nd => by
    have np : valV kvs p.1 = none := by
      have h1 : p.1 ∉ kvs.map (·.1) := fun m => by
        rw [List.map_append, List.map_cons, List.nodup_append] at nd
        exact nd.2.2 p.1 m p.1 (List.mem_cons_self ..) rfl
      cases e : valV kvs p.1 with
      | none => rfl
      | some v =>
        have := valV_any p.1 kvs
        rw [e] at this
        exact absurd (anyK.mp this) h1
    show mergeK (L2.putK kvs p.1 p.2) r = _
    rw [putK_new p.2 np, mergeK_app (by simpa using nd)]
    simp
theorem pps_ok {ks : List PV} {keys : List (Option Expr)} (fk : Fa (fun (k : Option Expr) (v : PV) => ∃ c j p, k = some (.Constant c j p) ∧ PE X (.Constant c j p) (tC (L2.kV (keyD v)))) keys ks) :
    ∀ {vals : List Expr} {es' : List Z.E}, Zxs X W E C vals es' → keys.length = vals.length → ∃ trs, PPs X pos keys vals trs ∧ ∀ (σ : L2.St) (H : Hp) (Q : List (V × V) → Hp → Prop), (∃ z ρ h, RE W z ρ σ ∧ RH W z h H ∧ Post W z E (evEs C es' ρ h) fun z' vs _ H' => ∀ vs', RVs W z' vs vs' → Q (((ks.map keyD).zip vs').map fun kv => (L2.kV kv.1, kv.2)) H') → tPairs trs σ H Q := by
  induction fk with
  | nil =>
    intro vals es' zv hl
    cases zv with
    | nil => exact ⟨[], pps_nil, fun σ H Q ⟨z, ρ, h, re, rh, p⟩ => by
        have p' : Post W z E (.ok [] h) fun z' vs _ H' => ∀ vs', RVs W z' vs vs' → Q ((([] : List PV).map keyD).zip vs' |>.map fun kv => (L2.kV kv.1, kv.2)) H' := p
        exact Post.ok p' rh [] RVs.nil⟩
    | cons _ _ => cases hl
  | cons hk r ih =>
    rename_i k v keys ks
    intro vals es' zv hl
    cases zv with
    | nil => cases hl
    | cons zx zr =>
      rename_i e e' es es'
      obtain ⟨c, j, p, rfl, pk⟩ := hk
      obtain ⟨trs, h1, h2⟩ := ih zr (by simpa using hl)
      refine ⟨_, pps_cons pk zx.pe h1, fun σ H Q ⟨z, ρ, h, re, rh, p⟩ => ?_⟩
      have p' : Post W z E ((evE C e' ρ h).bnd fun v h1 => (evEs C es' ρ h1).bnd fun vs h2 => .ok (v :: vs) h2) fun z' vs _ H' => ∀ vs', RVs W z' vs vs' → Q (((v :: ks).map keyD).zip vs' |>.map fun kv => (L2.kV kv.1, kv.2)) H' := p
      refine ⟨z, ρ, h, re, rh, p'.bnd.imp fun z1 a h1 H1 l1 R1 p1 v1 r1 => ?_⟩
      refine h2 σ H1 _ ⟨z1, ρ, h1, re.mono l1, R1, p1.bnd.imp fun z2 bs h2 H2 l2 R2 p2 vs2 r2 => ?_⟩
      exact Post.ok p2 R2 (v1 :: vs2) (RVs.cons (RV.mono l2 _ _ r1) r2)
theorem zDdisp {ks : List PV} {keys : List (Option Expr)} {vals : List Expr} {es' : List Z.E} (fk : Fa (fun (k : Option Expr) (v : PV) => ∃ c j p, k = some (.Constant c j p) ∧ PE X (.Constant c j p) (tC (L2.kV (keyD v)))) keys ks)
    (kr : ∀ z, RVs W z ks ((ks.map keyD).map L2.kV)) (zv : Zxs X W E C vals es') (hl : keys.length = vals.length) (h0 : keys ≠ []) (h15 : keys.length ≤ 15) (nd : (ks.map keyD).Nodup) : PE X (.Dict keys vals pos) (tAl W E (evA C (.ddisp ks es'))) := by
  have hall : keys.all (·.isSome) = true := by
    clear hl h0 h15 kr nd
    induction fk with
    | nil => rfl
    | cons hk r ih =>
      obtain ⟨c, j, p, rfl, _⟩ := hk
      rw [List.all_cons, ih]
      rfl
  obtain ⟨trs, h1, h2⟩ := pps_ok (pos := pos) fk zv hl
  refine (pe_disp h1 hall hl h0 h15).imp fun σ H Q ⟨z, ρ, h, re, rh, p⟩ => ?_
  have p' : Post W z E ((evEs C es' ρ h).bnd fun vs h1 => grd (decide (ks.length = vs.length)) (.ok (.dct ks vs) h1)) (KA W Q) := p
  intro D hD
  refine h2 σ _ _ ⟨addRs z D (.dK []), ρ, h, re.mono (le_rs rh hD), rh.newRs hD rfl, ?_⟩
  have lk := fk.length
  cases e : evEs C es' ρ h with
  | stuck =>
    rw [e] at p'
    exact p'
  | exc x h1 =>
    rw [e] at p'
    exact Post.mono (le_rs rh hD) p'
  | ok vs h1 =>
    rw [e, Res.bnd_ok] at p'
    obtain ⟨g, p2⟩ := grd_ok p'
    have hlen := of_decide_eq_true g
    intro z1 H1 l1 R1 vs' r
    have rsD : z1.rs D = some (.dK []) := l1.rs _ _ rs_at
    have nD : z.rs D = none := rh.notrs hD
    have hz : (ks.map keyD).length = vs'.length := by rw [List.length_map, hlen, r.length]
    have hf : ((ks.map keyD).zip vs').map (·.1) = ks.map keyD := by rw [List.map_fst_zip (by omega)]
    have hs : ((ks.map keyD).zip vs').map (·.2) = vs' := by rw [List.map_snd_zip (by omega)]
    refine ⟨(R1.rs D _ rsD).1, (ks.map keyD).zip vs', rfl, ?_, ?_⟩
    · rw [List.length_zip, List.length_map]
      omega
    · have lz : z.Le (dropRs z1 D) := le_drop (Zn.Le.trans ⟨(le_rs rh hD).mp, (le_rs rh hD).fz, (le_rs rh hD).rs⟩ l1) nD
      have k := p2 (dropRs z1 D) (offH H1 D) lz (R1.offRs rsD) D (.dK ((ks.map keyD).zip vs')) off_at ⟨_, rfl, by rw [hf]; exact nd, ?_, ?_⟩
      · have e2 : mergeK [] ((ks.map keyD).zip vs') = (ks.map keyD).zip vs' := by
          rw [mergeK_app (by rw [List.nil_append, hf]; exact nd), List.nil_append]
        rw [e2]
        have e3 : upd (offH H1 D) D (.dK ((ks.map keyD).zip vs')) = upd H1 D (.dK ((ks.map keyD).zip vs')) := by
          funext a
          by_cases q : a = D
          · rw [q, upd_same, upd_same]
          · rw [upd_ne q, upd_ne q, off_ne q]
        rw [e3] at k
        exact k
      · have e4 : ((ks.map keyD).zip vs').map (fun q => L2.kV q.1) = (ks.map keyD).map L2.kV := by
          rw [← hf, List.map_map]
          rw [hf]
          rfl
        rw [e4]
        exact kr _
      · rw [hs]
        exact RVs.rsi (z := z1) (z' := dropRs z1 D) rfl rfl _ _ r
theorem zDict0 : PE X (.Dict [] [] pos) (tAl W E (evA C .dict0)) := by
  refine pe_dnewK.imp fun σ H Q ⟨z, ρ, h, re, rh, p⟩ D hD => ?_
  have p' : Post W z E (.ok (.dct [] []) h) (KA W Q) := p
  exact Post.ok p' rh D (.dK []) hD ⟨[], rfl, by simp, RVs.nil, RVs.nil⟩
/-! ### calls of defs -/
def spOf (W : Sta) (n : Nat) (f : List PV → AH → Res PV) : Sp := fun vs H Q E => ∃ z as h, RVs W z as vs ∧ RH W z h H ∧ as.length = n ∧ Post W z E (f as h) (KV W Q)
/-- a def that is known by name -/
structure Fk (X : Cx) (W : Sta) (E : XK) (x : Str) (n : Nat) (f : List PV → AH → Res PV) : Prop where
  ex : ∃ (k : Nat) (a : Addr) (fd : FuncData) (ps : List Str), FnOk X.prog X.w X.K X.mg X.base (L2N.CX X.prog X.w) k a fd ps (spOf W n f) ∧ Room k X.A ∧ X.mg x = some (.ref a) ∧ PySem.W.keepIn X.K (.ref a) = true ∧ Binds X.K fd ps [] ∧ Passes (L2N.CX X.prog X.w) X E
theorem zCall {x : Str} {p : Pos} {f n : Nat} {es : List Expr} {es' : List Z.E} (F : Fk X W E x n (C.fn f)) (hg : Gl X x) (hdb : (x == ("__debug__" : Str)) = false) (hs : Zxs X W E C es es') (hn : es'.length = n) : PE X (.Call (.Name x p) es [] pos) (tE W E (evE C (.call f es'))) := by
  obtain ⟨k, a, fd, ps, F, hr, hm, hk, hb, hx⟩ := F.ex
  have key : ∀ σ H Q, tE W E (evE C (.call f es')) σ H Q → tCall (spOf W n (C.fn f)) [] E (tA W E (evEs C es')) σ H Q := fun σ H Q ⟨z, ρ, h, re, rh, p⟩ => by
    have p' : Post W z E ((evEs C es' ρ h).bnd fun vs h1 => C.fn f vs h1) (KV W Q) := p
    refine ⟨z, ρ, h, re, rh, (post_len p'.bnd).imp fun z1 as h1 H1 l1 R1 ⟨ln, p1⟩ vs r => ?_⟩
    exact ⟨z1, as, h1, by rw [List.append_nil]; exact r, R1, ln.trans hn, p1⟩
  cases hs with
  | nil =>
    refine (pe_call0 F hr hg hm hk hb .nil hx hdb).imp fun σ H Q q => ?_
    obtain ⟨z, ρ, h, re, rh, p⟩ := key σ H Q q
    have p' : Post W z E (.ok [] h) _ := p
    exact Post.ok p' rh [] RVs.nil
  | cons a r => exact (pe_call F hr hg hm hk hb .nil hx (zArgs (.cons a r)) hdb (starNo a.ns) (noStars r)).imp key
end
end Z
-- ZE0
set_option Elab.async false
set_option linter.all false
set_option maxRecDepth 100000
set_option maxHeartbeats 1000000
/-! Layer Z: enumerate over a tuple. -/
namespace Z
open PySem PySem.Spec PyProof.Rows L2
theorem meets_enum1 {v : Value} {o : Obj} {H : Heap → Prop} (B : Begins v o H) :
    Meets (Builtin.«enumerate.__new__» ⟨[.type "enumerate", v], []⟩) (fun _ R s => H s.heap ∧
      R (.ok (.ret (.ref (s.heap.push o).objs.size))) { s with heap := (s.heap.push o).push { cls := .type "enumerate", data := .fields #[.none, .bool false, .ref s.heap.objs.size, rawInt 0, .none, .none] } }) :=
  .of_wp fun prog w A R s h => by
    obtain ⟨hp, g, d, tk, os⟩ := s; obtain ⟨h1, h⟩ := h
    have hsub := sub_enumerate
    have q1 : ∀ {A' : Around} {E : Value → Shared → Prop} {Q : Value → Shared → Prop}, Q (.ref hp.objs.size) ⟨hp.push o, g, d, tk, os⟩ → wpAny (model prog w) A' (pyIter v) Q E ⟨hp, g, d, tk, os⟩ :=
      fun q => B.iter prog w _ _ ⟨hp, g, d, tk, os⟩ _ h1 q
    wp_walk using q1
    refine wpAny_stack_any fun st => wpAny_pure ?_
    split
    · rename_i c _ _ _ _ _
      cases (c == Value.type "enumerate")
      · wp_walk using q1
        exact ⟨_, rfl, h⟩
      · wp_walk using q1
        exact ⟨_, rfl, h⟩
    · wp_walk using q1
      exact ⟨_, rfl, h⟩
section
variable {prog : Program} {w : World} {A : Around} {E : Value → Shared → Prop} {s : Shared}
/-- enumerate(v): its two new cells -/
theorem enum_begins1 {v : Value} {o : Obj} {H : Heap → Prop} {Q : Value → Shared → Prop} (B : Begins v o H) (h1 : H s.heap)
    (h : ∀ h', IsEnum h' (s.heap.objs.size + 1) s.heap.objs.size 0 .none → h'.get? s.heap.objs.size = some o → h'.objs.size = s.heap.objs.size + 2 →
      (∀ b o, s.heap.get? b = some o → h'.get? b = some o) → Q (.ref (s.heap.objs.size + 1)) { s with heap := h' }) :
    wpAny (model prog w) A (call (.type "enumerate") [v]) Q E s := by
  refine callType_new F.called_enumerate (by decide) (F.typeCall_enumerate_1 _) (F.newCall_enumerate_1 _) (fun obj => F.args_object_init_2 obj _) F.entry_enumerate_new
    (meets_enum1 B) ⟨h1, ?_⟩
  have hz : (s.heap.push o).objs.size = s.heap.objs.size + 1 := Heap.size_push ..
  show _ ∧ _
  rw [hz]
  have he : IsEnum ((s.heap.push o).push { cls := .type "enumerate", data := .fields #[.none, .bool false, .ref s.heap.objs.size, rawInt 0, .none, .none] }) (s.heap.objs.size + 1) s.heap.objs.size 0 .none := by
    have := Heap.get?_push_size (s.heap.push o) (o := { cls := .type "enumerate", data := .fields #[.none, .bool false, .ref s.heap.objs.size, rawInt 0, .none, .none] }) rfl
    rw [hz] at this; exact this
  refine ⟨⟨_, he, rfl⟩, h _ he (Heap.get?_push_of_some _ (Heap.get?_push_size _ B.free)) (by rw [Heap.size_push, hz]) fun b o x => Heap.get?_push_of_some _ (Heap.get?_push_of_some _ x)⟩
end
/-- the tuple at a, each item in a new pair -/
def IteT (K : PySem.W.Frag) (a : Addr) : It :=
  ⟨fun i H => ∃ (xs : List V) (x : V), SqT K H a xs ∧ xs[i]? = some x, fun i H v H' => ∃ T x, v = .ref T ∧ H T = none ∧ H' = upd H T (.tup [.int (i : Nat), x]) ∧ ∀ xs, SqT K H a xs → xs[i]? = some x, fun i H => ∃ xs : List V, SqT K H a xs ∧ xs.length ≤ i⟩
theorem turn_enumT {P : Program} {w : World} {K : PySem.W.Frag} {elts : List Expr} {kk : Nat} {tpos : Pos} (a e it : Addr) :
    Turn P w K (.Tuple elts kk tpos) (IteT K a) [e, it] e (fun i h => (∃ old, IsEnum h e it ((i : Nat) : Int) old) ∧ h.IsTupleIter it a i ∧ e ≠ it ∧ a ≠ it ∧ e ≠ a) where
  mem := by simp
  obj := fun i h st b hb => by
    obtain ⟨⟨old, he⟩, ⟨o, ho, hc, hd⟩, _⟩ := st
    have e' : b = e ∨ b = it := by simpa using hb
    rcases e' with z | z
    · rw [z]; exact ⟨_, he, fun v q => nomatch q⟩
    · rw [z]; exact ⟨o, ho, fun v q => by rw [hd] at q; cases q⟩
  keep := fun i h h' st k => let ⟨⟨old, he⟩, hi, hne⟩ := st; ⟨⟨old, k e (by simp) _ he⟩, hi.at fun o q => k it (by simp) o q, hne⟩
  item := by
    intro X hP hw hK hc i pins s σ H E I hf st hg
    subst hP hw hK
    obtain ⟨⟨old, he⟩, hit, hne, hai, hea⟩ := st
    obtain ⟨xs, x, hq, hx⟩ := hg
    obtain ⟨its, rv, p, hz⟩ := I.tuple hq
    obtain ⟨u, hu, ru⟩ := rv.get hx
    have hel : e < s.heap.objs.size := Heap.lt_size he
    have hil : it < s.heap.objs.size := by obtain ⟨_, q, _⟩ := hit; exact Heap.lt_size q
    have hlt : i < its.toArray.size := by
      have := List.getElem?_eq_some_iff.1 hu
      obtain ⟨q, _⟩ := this
      simpa using q
    have D := Draws.tuple (prog := X.prog) (w := X.w) (A := X.A.in1) (I.ok.hd hc) it a hai its.toArray
    refine wpAny_pyNext_enum_itemD D he ⟨hit, show s.heap.IsTuple a its.toArray from p⟩ hlt hne (by simp [hne, hea]) fun y h' tk hy ho hst hT hsz hk => ?_
    have ey : y = u := by
      have e1 : its.toArray[i]? = some u := by simpa using hu
      have e2 : its.toArray[i]? = some y := hy
      rw [e1] at e2
      cases e2
      rfl
    subst ey
    refine ⟨_, rfl, wpAny_letOwnedTupleGo_enum (s := { s with heap := h', toks := tk + 1 }) ho fun h'' he' sb => ?_⟩
    have hT2 : h''.get? s.heap.objs.size = some { cls := .type "tuple", data := .seq #[.int i tk, y] } := (sb.2 _ (Nat.ne_of_gt hel)).trans hT
    have new : ObjOk X.prog X.w (upd H s.heap.objs.size (.tup [.int (i : Nat), x])) h'' s.heap.objs.size (.tup [.int (i : Nat), x]) :=
      ⟨by show 2 ≤ sizeLine; decide, [.int i tk, y], .cons ⟨_, rfl⟩ (.cons ru .nil), ⟨_, hT2, rfl, _, rfl⟩⟩
    have I1 : Inv X pins σ (upd H s.heap.objs.size (.tup [.int (i : Nat), x])) { s with heap := h'', toks := tk + 1 } :=
      I.turnedNew (ch := [e, it]) (fun b ob hb q => (sb.2 b (fun z => hb (by simp [z]))).trans (hk b ob (fun z => hb (by simp [z])) (fun z => hb (by simp [z])) q)) hf (Nat.le_refl _) new
    refine ⟨.ref s.heap.objs.size, _, I1, rfl, ⟨_, x, rfl, I.hok.fresh (Nat.le_refl _), rfl, fun ys hy => by rw [I.tuple_inj hy hq]; exact hx⟩, ⟨⟨y, ?_⟩, hst.1.at fun o q => (sb.2 it (Ne.symm hne)).trans q, hne, hai, hea⟩, fun b hb => ?_⟩
    · have e1 : ((i + 1 : Nat) : Int) = (i : Int) + 1 := by omega
      rw [e1]; exact he'
    · have hb' : b < s.heap.objs.size := by
        have e' : b = e ∨ b = it := by simpa using hb
        rcases e' with z | z
        · rw [z]; exact hel
        · rw [z]; exact hil
      rw [upd_ne (Nat.ne_of_lt hb')]
      exact (hf b hb).1
  done := by
    intro X hP hw hK hc i pins s σ H E I hf st hg
    subst hP hw hK
    obtain ⟨⟨old, he⟩, hit, hne, hai, hea⟩ := st
    obtain ⟨xs, hq, hx⟩ := hg
    obtain ⟨its, rv, p, hz⟩ := I.tuple hq
    obtain ⟨f0, f1, f2, f3, f4, f5⟩ := hf it (by simp)
    have hl := rv.length
    have pt : s.heap.IsTuple a its.toArray := p
    have D : Draws X.prog X.w X.A.in1 it [it, a] i (fun _ _ => True) (fun j h => j = i ∧ h.IsTupleIter it a j ∧ h.IsTuple a its.toArray) :=
      { live := fun _ _ st => let ⟨o, ho, _⟩ := st.2.1; ⟨o, ho⟩
        frame := fun _ _ _ st hk => ⟨st.1, st.2.1.at fun o e => hk it (by simp) o e, st.2.2.at fun o e => hk a (by simp) o e⟩
        item := fun j s' Q' E' hj st _ => absurd st.1 (Nat.ne_of_lt hj)
        done := fun s' Q' E' st hE => wpAny_nextOf_tuple_end (A := X.A.in1) (I.ok.hd hc) st.2.1 st.2.2 (by simp; omega) hE }
    exact wpAny_pyNext_enum_endD D he ⟨rfl, hit, pt⟩ fun h' eb => ⟨rfl, I.turned (t' := s.toks) (fun b o hb q => eb b o hb q) f0 f1 f3 f4 f5⟩
  self := fun A i s Q E st h => let ⟨⟨_, he⟩, _⟩ := st; wpAny_pyIter_enum he h
def iEnumT (K : PySem.W.Frag) (ta : TA) : TI := fun σ H R => ta σ H fun vs H1 => ∃ a xs, vs = [.ref a] ∧ SqT K H1 a xs ∧ R (IteT K a) H1
theorem pi_enumT {X : Cx} {e : Expr} {ta : TA} {p pos tpos : Pos} {elts : List Expr} {kk : Nat} (hg : Gl X "enumerate") (hm : X.mg "enumerate" = none) (ha : PA X [e] ta) (hs : starEach [e] X.env = [(false, eval e X.env)] := by rfl) :
    PI X (.Tuple elts kk tpos) (.Call (.Name "enumerate" p) [e] [] pos) (iEnumT X.K ta) := by
  refine ⟨fun pins s σ H R I h => ?_⟩
  refine Call_ (ld_blt I hg hm boot_enumerate (PyProof.Rows.callWith_type1 (thn (ha.run pos pins s σ H _ I h) fun us s1 ⟨vs, H1, I1, r1, q1⟩ => ?_) hs rfl))
  obtain ⟨a, xs, ex, hq, q⟩ := q1
  subst ex
  cases r1 with
  | cons r rr =>
    cases rr
    cases r
    obtain ⟨its, rv, p', hz⟩ := I1.tuple hq
    have hal : a < s1.heap.objs.size := by obtain ⟨_, q, _⟩ := p'; exact Heap.lt_size q
    refine enum_begins1 (begins_tuple a its.toArray) (show s1.heap.IsTuple a its.toArray from p') fun h' he hit hsz hk => wpAny_pyIter_enum he ?_
    have I2 : Inv X pins σ H1 { s1 with heap := h' } := I1.kept (t' := s1.toks) hk
    refine ⟨s1.heap.objs.size + 1, [s1.heap.objs.size + 1, s1.heap.objs.size], _, _, H1, rfl, I2, turn_enumT a (s1.heap.objs.size + 1) s1.heap.objs.size, ⟨⟨.none, he⟩, ⟨_, hit, rfl, rfl⟩, Nat.succ_ne_self _, Nat.ne_of_lt hal, Nat.ne_of_gt (Nat.lt_trans hal (Nat.lt_succ_self _))⟩, fun b hb => ?_, q⟩
    have e' : b = s1.heap.objs.size + 1 ∨ b = s1.heap.objs.size := by simpa using hb
    have hle : s1.heap.objs.size ≤ b := by
      rcases e' with z | z
      · rw [z]; exact Nat.le_add_right _ _
      · rw [z]; exact Nat.le_refl _
    exact I1.fpOk hle (I1.hok.fresh hle)
end Z
-- Z13
set_option Elab.async false
set_option linter.all false
set_option maxRecDepth 100000
set_option maxHeartbeats 1000000
/-! Layer Z, part 13: what loops walk. -/
namespace Z
open PySem PySem.Spec PyProof.Rows L2
structure ItOk (W : Sta) (J : It) (z : Zn) (xs : List PV) (g : Option (Nat × MO)) : Prop where
  go : ∀ z' h' H' i, z.Le0 z' → RH W z' h' H' → grdOk g h' = true → i < xs.length → J.go i H'
  stop : ∀ z' h' H' i, z.Le0 z' → RH W z' h' H' → grdOk g h' = true → xs.length ≤ i → J.stop i H'
  yld : ∀ z' h' H' i x v H'', z.Le0 z' → RH W z' h' H' → grdOk g h' = true → xs[i]? = some x → J.yld i H' v H'' → ∃ z'', z'.Le z'' ∧ RH W z'' h' H'' ∧ RV W z'' x v
theorem ItOk.mono {W : Sta} {J : It} {z z1 : Zn} {xs : List PV} {g : Option (Nat × MO)} (L : z.Le z1) (k : ItOk W J z xs g) : ItOk W J z1 xs g :=
  ⟨fun z' h' H' i l => k.go z' h' H' i (L.le0.trans l), fun z' h' H' i l => k.stop z' h' H' i (L.le0.trans l), fun z' h' H' i x v H'' l => k.yld z' h' H' i x v H'' (L.le0.trans l)⟩
abbrev KI (W : Sta) (R : It → Hp → Prop) : Zn → List PV × Option (Nat × MO) → AH → Hp → Prop := fun z p _ H => ∀ J, ItOk W J z p.1 p.2 → R J H
def tI (W : Sta) (E : XK) (f : Env → AH → Res (List PV × Option (Nat × MO))) : TI := fun σ H R => ∃ z ρ h, RE W z ρ σ ∧ RH W z h H ∧ Post W z E (f ρ h) (KI W R)
section
variable {W : Sta} {z : Zn} {h : AH}
theorem RVs.some_len {xs : List PV} {vs : List V} (r : RVs W z xs vs) {i : Nat} (hi : i < xs.length) : ∃ v, vs[i]? = some v := by
  rw [r.length] at hi
  exact ⟨_, List.getElem?_eq_getElem hi⟩
theorem RVs.at_ {xs : List PV} {vs : List V} (r : RVs W z xs vs) {i : Nat} {x : PV} {v : V} (e : xs[i]? = some x) (e' : vs[i]? = some v) : RV W z x v := by
  obtain ⟨v', e2, rv⟩ := r.get e
  rw [e'] at e2
  cases e2
  exact rv
/-- where a list stands in later heaps -/
def LAt (W : Sta) (z : Zn) (a : Addr) (xs : List PV) (g : Option (Nat × MO)) : Prop := ∀ z' h' H', z.Le0 z' → RH W z' h' H' → grdOk g h' = true → ∃ vs, SqL W.K H' a vs ∧ RVs W z' xs vs
def TAt (W : Sta) (z : Zn) (a : Addr) (xs : List PV) : Prop := ∀ z' h' H', z.Le0 z' → RH W z' h' H' → ∃ vs, SqT W.K H' a vs ∧ RVs W z' xs vs
theorem lAt_lst {xs : List PV} {x : V} (r : RV W z (.lst xs) x) : ∃ a, x = .ref a ∧ LAt W z a xs none := by
  obtain ⟨a, vs, rfl, q, r⟩ := r
  exact ⟨a, rfl, fun z' h' H' l R _ => ⟨vs, SqL.of (R.fz _ _ (l.fz _ _ q)), RVs.mono0 l _ _ r⟩⟩
theorem lAt_ref {i : Nat} {xs : List PV} {x : V} (r : RV W z (.ref i) x) : ∃ a, x = .ref a ∧ LAt W z a xs (some (i, .lst xs)) := by
  obtain ⟨a, q, rfl⟩ := r
  refine ⟨a, rfl, fun z' h' H' l R g => ?_⟩
  have e : h'[i]? = some (.lst xs) := of_decide_eq_true g
  obtain ⟨vs, q1, q2⟩ := R.mo i _ a e (l.at q)
  exact ⟨vs, SqL.of q1, q2⟩
theorem tAt_tup {xs : List PV} {x : V} (r : RV W z (.tup xs) x) : ∃ a, x = .ref a ∧ TAt W z a xs := by
  obtain ⟨a, vs, rfl, q, r⟩ := r
  exact ⟨a, rfl, fun z' h' H' l R => ⟨vs, sqT_H R (sqT_le0 l q), RVs.mono0 l _ _ r⟩⟩
theorem it_list {a : Addr} {xs : List PV} {g : Option (Nat × MO)} (k : LAt W z a xs g) : ItOk W (Itl W.K a) z xs g := by
  refine ⟨fun z' h' H' i l R gk hi => ?_, fun z' h' H' i l R gk hi => ?_, fun z' h' H' i x v H'' l R gk e y => ?_⟩
  · obtain ⟨vs, q, r⟩ := k z' h' H' l R gk
    obtain ⟨v, e⟩ := r.some_len hi
    exact ⟨vs, v, q, e⟩
  · obtain ⟨vs, q, r⟩ := k z' h' H' l R gk
    exact ⟨vs, q, by rw [← r.length]; exact hi⟩
  · obtain ⟨vs, q, r⟩ := k z' h' H' l R gk
    obtain ⟨rfl, y⟩ := y
    exact ⟨z', .refl _, R, r.at_ e (y vs q)⟩
theorem it_tup {a : Addr} {xs : List PV} (k : TAt W z a xs) : ItOk W (Itt W.K a) z xs none := by
  refine ⟨fun z' h' H' i l R gk hi => ?_, fun z' h' H' i l R gk hi => ?_, fun z' h' H' i x v H'' l R gk e y => ?_⟩
  · obtain ⟨vs, q, r⟩ := k z' h' H' l R
    obtain ⟨v, e⟩ := r.some_len hi
    exact ⟨vs, v, q, e⟩
  · obtain ⟨vs, q, r⟩ := k z' h' H' l R
    exact ⟨vs, q, by rw [← r.length]; exact hi⟩
  · obtain ⟨vs, q, r⟩ := k z' h' H' l R
    obtain ⟨rfl, y⟩ := y
    exact ⟨z', .refl _, R, r.at_ e (y vs q)⟩
theorem it_str {x : List Nat} (ok : okS x = true) : ItOk W (Its (toS x)) z (x.map fun c => .str [c]) none := by
  have hs : (toS x).cps.size = x.length := by simp
  refine ⟨fun z' h' H' i l R gk hi => ?_, fun z' h' H' i l R gk hi => ?_, fun z' h' H' i y v H'' l R gk e yy => ?_⟩
  · show i < (toS x).cps.size
    rw [hs]
    simpa using hi
  · show (toS x).cps.size ≤ i
    rw [hs]
    simpa using hi
  · obtain ⟨rfl, c, e1, rfl⟩ := yy
    refine ⟨z', .refl _, R, ?_⟩
    rw [List.getElem?_map] at e
    have e2 : x[i]? = some c := by
      have : (toS x).cps[i]? = x[i]? := by simp
      rw [← this]
      exact e1
    rw [e2] at e
    cases e
    refine ⟨rfl, ?_, ?_⟩
    · rw [sizeLine_eq]
      show 1 ≤ _
      omega
    · have mem : c ∈ x := List.mem_of_getElem? e2
      unfold okS at *
      rw [List.all_eq_true] at *
      intro d hd
      have : d = c := by simpa using hd
      rw [this]
      exact ok c mem
theorem rngL_length (a : Int) (n : Nat) : (rngL a n).length = n := by
  induction n generalizing a with
  | zero => rfl
  | succ n ih =>
    show (rngL (a + 1) n).length + 1 = n + 1
    rw [ih]
theorem rngL_get (a : Int) (n i : Nat) (x : PV) (e : (rngL a n)[i]? = some x) : x = .int (a + i) := by
  induction n generalizing a i with
  | zero => simp [rngL] at e
  | succ n ih =>
    cases i with
    | zero =>
      have e' : PV.int a = x := by simpa [rngL] using e
      rw [← e']
      simp
    | succ i =>
      have := ih (a + 1) i (by simpa [rngL] using e)
      rw [this]
      congr 1
      omega
theorem it_rng (a : Int) (n : Nat) : ItOk W (Itr a n) z (rngL a n) none := by
  refine ⟨fun z' h' H' i l R gk hi => ?_, fun z' h' H' i l R gk hi => ?_, fun z' h' H' i x v H'' l R gk e y => ?_⟩
  · rw [rngL_length] at hi
    exact hi
  · rw [rngL_length] at hi
    exact hi
  · obtain ⟨rfl, rfl⟩ := y
    refine ⟨z', .refl _, R, ?_⟩
    rw [rngL_get a n i x e]
    rfl
theorem enumFrom_length (k : Int) (xs : List PV) : (enumFrom k xs).length = xs.length := by
  induction xs generalizing k with
  | nil => rfl
  | cons x r ih =>
    show (enumFrom (k + 1) r).length + 1 = _
    rw [ih]
    rfl
theorem enumFrom_get (k : Int) (xs : List PV) (i : Nat) (x : PV) (e : (enumFrom k xs)[i]? = some x) : ∃ y, xs[i]? = some y ∧ x = .tup [.int (k + i), y] := by
  induction xs generalizing k i with
  | nil => simp [enumFrom] at e
  | cons y r ih =>
    cases i with
    | zero =>
      have e' : PV.tup [.int k, y] = x := by simpa [enumFrom] using e
      exact ⟨y, rfl, by rw [← e']; simp⟩
    | succ i =>
      obtain ⟨w, h1, h2⟩ := ih (k + 1) i (by simpa [enumFrom] using e)
      refine ⟨w, by simpa using h1, ?_⟩
      rw [h2]
      congr 3
      omega
theorem rv_newT {z' : Zn} {h' : AH} {H' : Hp} {T : Addr} {xs : List PV} {vs : List V} (R : RH W z' h' H') (n : H' T = none) (r : RVs W z' xs vs) : ∃ z'', z'.Le z'' ∧ RH W z'' h' (upd H' T (.tup vs)) ∧ RV W z'' (.tup xs) (.ref T) :=
  ⟨addFz z' T (.tup vs), R.le_fz n, R.newFz n rfl, T, vs, rfl, .inl (.inl addFz_at), RVs.mono (R.le_fz n) _ _ r⟩
theorem it_enum {a : Addr} {xs : List PV} {g : Option (Nat × MO)} (k : LAt W z a xs g) : ItOk W (Ite W.K a) z (enumFrom 0 xs) g := by
  refine ⟨fun z' h' H' i l R gk hi => ?_, fun z' h' H' i l R gk hi => ?_, fun z' h' H' i x v H'' l R gk e y => ?_⟩
  · rw [enumFrom_length] at hi
    obtain ⟨vs, q, r⟩ := k z' h' H' l R gk
    obtain ⟨v, e⟩ := r.some_len hi
    exact ⟨vs, v, q, e⟩
  · rw [enumFrom_length] at hi
    obtain ⟨vs, q, r⟩ := k z' h' H' l R gk
    exact ⟨vs, q, by rw [← r.length]; exact hi⟩
  · obtain ⟨vs, q, r⟩ := k z' h' H' l R gk
    obtain ⟨T, w, rfl, hn, rfl, y⟩ := y
    obtain ⟨y0, e1, rfl⟩ := enumFrom_get 0 xs i x e
    refine rv_newT R hn (RVs.cons ?_ (RVs.cons (r.at_ e1 (y vs q)) RVs.nil))
    show V.int _ = V.int _
    congr 1
    omega
theorem it_enumT {a : Addr} {xs : List PV} (k : TAt W z a xs) : ItOk W (IteT W.K a) z (enumFrom 0 xs) none := by
  refine ⟨fun z' h' H' i l R gk hi => ?_, fun z' h' H' i l R gk hi => ?_, fun z' h' H' i x v H'' l R gk e y => ?_⟩
  · rw [enumFrom_length] at hi
    obtain ⟨vs, q, r⟩ := k z' h' H' l R
    obtain ⟨v, e⟩ := r.some_len hi
    exact ⟨vs, v, q, e⟩
  · rw [enumFrom_length] at hi
    obtain ⟨vs, q, r⟩ := k z' h' H' l R
    exact ⟨vs, q, by rw [← r.length]; exact hi⟩
  · obtain ⟨vs, q, r⟩ := k z' h' H' l R
    obtain ⟨T, w, rfl, hn, rfl, y⟩ := y
    obtain ⟨y0, e1, rfl⟩ := enumFrom_get 0 xs i x e
    refine rv_newT R hn (RVs.cons ?_ (RVs.cons (r.at_ e1 (y vs q)) RVs.nil))
    show V.int _ = V.int _
    congr 1
    omega
theorem zip2_length (xs ys : List PV) : (zip2 xs ys).length = min xs.length ys.length := by
  induction xs generalizing ys with
  | nil => simp [zip2]
  | cons x r ih =>
    cases ys with
    | nil => simp [zip2]
    | cons y t =>
      show (zip2 r t).length + 1 = _
      rw [ih]
      simp only [List.length_cons]
      omega
theorem zip2_get (xs ys : List PV) (i : Nat) (x : PV) (e : (zip2 xs ys)[i]? = some x) : ∃ a b, xs[i]? = some a ∧ ys[i]? = some b ∧ x = .tup [a, b] := by
  induction xs generalizing ys i with
  | nil => simp [zip2] at e
  | cons y r ih =>
    cases ys with
    | nil => simp [zip2] at e
    | cons w t =>
      cases i with
      | zero =>
        have e' : PV.tup [y, w] = x := by simpa [zip2] using e
        exact ⟨y, w, rfl, rfl, e'.symm⟩
      | succ i =>
        obtain ⟨a, b, h1, h2, h3⟩ := ih t i (by simpa [zip2] using e)
        exact ⟨a, b, by simpa using h1, by simpa using h2, h3⟩
theorem it_zipL {a b : Addr} {xs ys : List PV} (k : LAt W z a xs none) (k2 : LAt W z b ys none) : ItOk W (Itz W.K a b) z (zip2 xs ys) none := by
  refine ⟨fun z' h' H' i l R gk hi => ?_, fun z' h' H' i l R gk hi => ?_, fun z' h' H' i x v H'' l R gk e y => ?_⟩
  · rw [zip2_length] at hi
    obtain ⟨vs, q, r⟩ := k z' h' H' l R gk
    obtain ⟨ws, q2, r2⟩ := k2 z' h' H' l R gk
    obtain ⟨v, e⟩ := r.some_len (i := i) (by omega)
    obtain ⟨w, e2⟩ := r2.some_len (i := i) (by omega)
    exact ⟨vs, ws, v, w, q, q2, e, e2⟩
  · rw [zip2_length] at hi
    obtain ⟨vs, q, r⟩ := k z' h' H' l R gk
    obtain ⟨ws, q2, r2⟩ := k2 z' h' H' l R gk
    refine ⟨vs, ws, q, q2, ?_⟩
    rw [← r.length, ← r2.length]
    omega
  · obtain ⟨vs, q, r⟩ := k z' h' H' l R gk
    obtain ⟨ws, q2, r2⟩ := k2 z' h' H' l R gk
    obtain ⟨T, w, w2, rfl, hn, rfl, y, y2⟩ := y
    obtain ⟨a0, b0, e1, e2, rfl⟩ := zip2_get xs ys i x e
    exact rv_newT R hn (RVs.cons (r.at_ e1 (y vs q)) (RVs.cons (r2.at_ e2 (y2 ws q2)) RVs.nil))
theorem it_zipT {a b : Addr} {xs ys : List PV} (k : TAt W z a xs) (k2 : TAt W z b ys) : ItOk W (RZ.ItzT W.K a b) z (zip2 xs ys) none := by
  refine ⟨fun z' h' H' i l R gk hi => ?_, fun z' h' H' i l R gk hi => ?_, fun z' h' H' i x v H'' l R gk e y => ?_⟩
  · rw [zip2_length] at hi
    obtain ⟨vs, q, r⟩ := k z' h' H' l R
    obtain ⟨ws, q2, r2⟩ := k2 z' h' H' l R
    obtain ⟨v, e⟩ := r.some_len (i := i) (by omega)
    obtain ⟨w, e2⟩ := r2.some_len (i := i) (by omega)
    exact ⟨vs, ws, v, w, q, q2, e, e2⟩
  · rw [zip2_length] at hi
    obtain ⟨vs, q, r⟩ := k z' h' H' l R
    obtain ⟨ws, q2, r2⟩ := k2 z' h' H' l R
    refine ⟨vs, ws, q, q2, ?_⟩
    rw [← r.length, ← r2.length]
    omega
  · obtain ⟨vs, q, r⟩ := k z' h' H' l R
    obtain ⟨ws, q2, r2⟩ := k2 z' h' H' l R
    obtain ⟨T, w, w2, rfl, hn, rfl, y, y2⟩ := y
    obtain ⟨a0, b0, e1, e2, rfl⟩ := zip2_get xs ys i x e
    exact rv_newT R hn (RVs.cons (r.at_ e1 (y vs q)) (RVs.cons (r2.at_ e2 (y2 ws q2)) RVs.nil))
end
section
variable {X : Cx} {W : Sta} {E : XK} {C : Ctx} {σ : L2.St} {H : Hp} {pos : Pos} {tg : Expr}
/-- the value that will come is known ahead -/
theorem piVal (hK : X.K = W.K) {e : Expr} {e' : Z.E} (he : Zx X W E C e e') : PI X tg e (tI W E (evI C (.val e'))) := by
  refine ⟨fun pins s σ H R I ⟨z, ρ, h, re, rh, p⟩ => ?_⟩
  have p' : Post W z E ((evE C e' ρ h).bnd fun v h1 => ofO h1 (itSeq h1 v)) (KI W R) := p
  have put : ∀ t : VK, Post W z E (evE C e' ρ h) (KV W t) → tE W E (evE C e') σ H t := fun t q => ⟨z, ρ, h, re, rh, q⟩
  cases q : evE C e' ρ h with
  | stuck =>
    rw [q] at p'
    exact p'.elim
  | exc x h1 =>
    rw [q] at p'
    refine (pi_list he.pe).run pins s σ H R I (put _ ?_)
    rw [q]
    exact p'
  | ok v h1 =>
    rw [q, Res.bnd_ok] at p'
    cases v with
    | tup xs =>
      refine (pi_tup he.pe).run pins s σ H R I (put _ ?_)
      rw [q]
      intro z1 H1 l1 R1 v1 r1
      obtain ⟨a, rfl, k⟩ := tAt_tup r1
      obtain ⟨vs, hq, _⟩ := k z1 h1 H1 (.refl _) R1
      have k2 := it_tup k
      exact ⟨a, rfl, ⟨vs, by rw [hK]; exact hq⟩, by rw [hK]; exact p' z1 H1 l1 R1 _ k2⟩
    | lst xs =>
      refine (pi_list he.pe).run pins s σ H R I (put _ ?_)
      rw [q]
      intro z1 H1 l1 R1 v1 r1
      obtain ⟨a, rfl, k⟩ := lAt_lst r1
      obtain ⟨vs, hq, _⟩ := k z1 h1 H1 (.refl _) R1 rfl
      have k2 := it_list k
      exact ⟨a, rfl, ⟨vs, by rw [hK]; exact hq⟩, by rw [hK]; exact p' z1 H1 l1 R1 _ k2⟩
    | str x =>
      refine (pi_str he.pe).run pins s σ H R I (put _ ?_)
      rw [q]
      intro z1 H1 l1 R1 v1 r1
      obtain ⟨rfl, _, ok⟩ := r1
      exact ⟨toS x, rfl, p' z1 H1 l1 R1 _ (it_str ok)⟩
    | ref i =>
      have e2 : itSeq h1 (.ref i) = match h1[i]? with
        | some (.lst xs) => some (xs, some (i, .lst xs))
        | _ => none := rfl
      rw [e2] at p'
      refine (pi_list he.pe).run pins s σ H R I (put _ ?_)
      rw [q]
      intro z1 H1 l1 R1 v1 r1
      cases em : h1[i]? with
      | none =>
        rw [em] at p'
        exact p'.elim
      | some m =>
        rw [em] at p'
        cases m with
        | lst xs =>
          obtain ⟨a, rfl, k⟩ := lAt_ref (xs := xs) r1
          have gk : grdOk (some (i, MO.lst xs)) h1 = true := decide_eq_true em
          obtain ⟨vs, hq, _⟩ := k z1 h1 H1 (.refl _) R1 gk
          have k2 := it_list k
          exact ⟨a, rfl, ⟨vs, by rw [hK]; exact hq⟩, by rw [hK]; exact p' z1 H1 l1 R1 _ k2⟩
        | dct ks ws => exact p'.elim
        | ins _ _ _ => exact p'.elim
    | _ => exact p'.elim
/-- the iterated value is known ahead -/
theorem one_arg {e' : Z.E} {z : Zn} {ρ : Env} {h : AH} {K : Zn → List PV × Option (Nat × MO) → AH → Hp → Prop} {t : List V → Hp → Prop} {f : AH → PV → Option (List PV × Option (Nat × MO))}
    (re : RE W z ρ σ) (rh : RH W z h H) (p : Post W z E ((evE C e' ρ h).bnd fun v h1 => ofO h1 (f h1 v)) K)
    (k : ∀ v h1 z1 H1 q, z.Le z1 → RH W z1 h1 H1 → f h1 v = some q → K z1 q h1 H1 → ∀ v', RV W z1 v v' → t [v'] H1) : tA W E (evEs C [e']) σ H t := by
  refine ⟨z, ρ, h, re, rh, ?_⟩
  show Post W z E ((evE C e' ρ h).bnd fun v h1 => (Res.ok [] h1).bnd fun vs h2 => .ok (v :: vs) h2) _
  cases q : evE C e' ρ h with
  | stuck =>
    rw [q] at p
    exact p
  | exc x h1 =>
    rw [q] at p
    exact p
  | ok v h1 =>
    rw [q, Res.bnd_ok] at p
    intro z1 H1 l1 R1 vs' r
    obtain ⟨x, rfl, rx⟩ := rvs1 r rfl
    cases q2 : f h1 v with
    | none =>
      rw [q2] at p
      exact p.elim
    | some u =>
      rw [q2] at p
      exact k v h1 z1 H1 u l1 R1 q2 (p z1 H1 l1 R1) x rx
/-- the iterated value is known ahead -/
theorem one_argE {e' : Z.E} {z : Zn} {ρ : Env} {h : AH} {K : Zn → List PV × Option (Nat × MO) → AH → Hp → Prop} {t : List V → Hp → Prop} {f : AH → PV → Option (List PV × Option (Nat × MO))}
    (re : RE W z ρ σ) (rh : RH W z h H) (p : Post W z E ((evE C e' ρ h).bnd fun v h1 => ofO h1 (f h1 v)) K)
    (k : ∀ v h1 z1 H1 q, evE C e' ρ h = .ok v h1 → z.Le z1 → RH W z1 h1 H1 → f h1 v = some q → K z1 q h1 H1 → ∀ v', RV W z1 v v' → t [v'] H1) : tA W E (evEs C [e']) σ H t := by
  refine ⟨z, ρ, h, re, rh, ?_⟩
  show Post W z E ((evE C e' ρ h).bnd fun v h1 => (Res.ok [] h1).bnd fun vs h2 => .ok (v :: vs) h2) _
  cases q : evE C e' ρ h with
  | stuck =>
    rw [q] at p
    exact p
  | exc x h1 =>
    rw [q] at p
    exact p
  | ok v h1 =>
    rw [q, Res.bnd_ok] at p
    intro z1 H1 l1 R1 vs' r
    obtain ⟨x, rfl, rx⟩ := rvs1 r rfl
    cases q2 : f h1 v with
    | none =>
      rw [q2] at p
      exact p.elim
    | some u =>
      rw [q2] at p
      exact k v h1 z1 H1 u q l1 R1 q2 (p z1 H1 l1 R1) x rx
theorem piEnum (hK : X.K = W.K) {e : Expr} {e' : Z.E} {p tpos : Pos} {elts : List Expr} {kk : Nat} (hg : Gl X "enumerate") (hm : X.mg "enumerate" = none) (he : Zx X W E C e e') : PI X (.Tuple elts kk tpos) (.Call (.Name "enumerate" p) [e] [] pos) (tI W E (evI C (.enum e'))) := by
  refine ⟨fun pins s σ H R I ⟨z, ρ, h, re, rh, pp⟩ => ?_⟩
  have p' : Post W z E ((evE C e' ρ h).bnd fun v h1 => ofO h1 (enSeq h1 v)) (KI W R) := pp
  by_cases hT : ∃ xs h1, evE C e' ρ h = .ok (.tup xs) h1
  · obtain ⟨xs, h9, eT⟩ := hT
    refine (pi_enumT hg hm (zArgs (.cons he .nil)) (starNo he.ns)).run pins s σ H R I (one_argE re rh p' fun v h1 z1 H1 q ev l1 R1 eq k v' rv => ?_)
    rw [eT] at ev
    cases ev
    cases eq
    obtain ⟨a, rfl, ka⟩ := tAt_tup rv
    obtain ⟨vs, hq, _⟩ := ka z1 _ H1 (.refl _) R1
    have k2 := it_enumT ka
    exact ⟨a, vs, rfl, by rw [hK]; exact hq, by rw [hK]; exact k _ k2⟩
  refine (pi_enum hg hm (zArgs (.cons he .nil)) (starNo he.ns)).run pins s σ H R I (one_argE re rh p' fun v h1 z1 H1 q ev l1 R1 eq k v' rv => ?_)
  unfold enSeq at eq
  cases v with
  | lst xs =>
    cases eq
    obtain ⟨a, rfl, ka⟩ := lAt_lst rv
    obtain ⟨vs, hq, _⟩ := ka z1 h1 H1 (.refl _) R1 rfl
    have k2 := it_enum ka
    exact ⟨a, vs, rfl, by rw [hK]; exact hq, by rw [hK]; exact k _ k2⟩
  | ref i =>
    simp only at eq
    split at eq
    · rename_i ys em
      cases eq
      obtain ⟨a, rfl, ka⟩ := lAt_ref (xs := ys) rv
      have gk : grdOk (some (i, MO.lst ys)) h1 = true := decide_eq_true em
      obtain ⟨vs, hq, _⟩ := ka z1 h1 H1 (.refl _) R1 gk
      have k2 := it_enum ka
      exact ⟨a, vs, rfl, by rw [hK]; exact hq, by rw [hK]; exact k _ k2⟩
    · cases eq
  | tup xs => exact absurd ⟨xs, h1, ev⟩ hT
  | _ => cases eq
theorem piRng2 {a b : Expr} {a' b' : Z.E} {p : Pos} (hg : Gl X "range") (hm : X.mg "range" = none) (ha : Zx X W E C a a') (hb : Zx X W E C b b') : PI X tg (.Call (.Name "range" p) [a, b] [] pos) (tI W E (evI C (.rng a' b'))) := by
  refine ⟨fun pins s σ H R I ⟨z, ρ, h, re, rh, pp⟩ => ?_⟩
  have p' : Post W z E ((evE C a' ρ h).bnd fun x h1 => (evE C b' ρ h1).bnd fun y h2 => match x, y with
    | .int i, .int j => grd (small i && small j && decide (i.natAbs < 2 ^ 62) && decide (j.natAbs < 2 ^ 62) && decide (j - i ≤ 1000000)) (.ok (rngL i (j - i).toNat, none) h2)
    | _, _ => .stuck) (KI W R) := pp
  refine (pi_range2 hg hm (zArgs (.cons ha (.cons hb .nil))) (by rw [starNo ha.ns, starNo hb.ns]; rfl) (by rw [starNo hb.ns]; rfl)).run pins s σ H R I ⟨z, ρ, h, re, rh, ?_⟩
  show Post W z E ((evE C a' ρ h).bnd fun v h1 => ((evE C b' ρ h1).bnd fun u h2 => (Res.ok [] h2).bnd fun vs h3 => .ok (u :: vs) h3).bnd fun vs h2 => .ok (v :: vs) h2) _
  cases q : evE C a' ρ h with
  | stuck =>
    rw [q] at p'
    exact p'
  | exc x h1 =>
    rw [q] at p'
    exact p'
  | ok v h1 =>
    rw [q, Res.bnd_ok] at p'
    rw [Res.bnd_ok]
    cases q2 : evE C b' ρ h1 with
    | stuck =>
      rw [q2] at p'
      exact p'
    | exc x h1 =>
      rw [q2] at p'
      exact p'
    | ok u h2 =>
      rw [q2, Res.bnd_ok] at p'
      intro z1 H1 l1 R1 vs' r
      obtain ⟨x, y, rfl, rx, ry⟩ := rvs2 r rfl
      cases v with
      | int i =>
        cases u with
        | int j =>
          obtain ⟨g, p2⟩ := grd_ok p'
          have rx' : x = .int i := rx
          have ry' : y = .int j := ry
          simp only [Bool.and_eq_true, decide_eq_true_eq] at g
          obtain ⟨⟨⟨⟨g1, g2⟩, g3⟩, g4⟩, g5⟩ := g
          exact ⟨i, j, by rw [rx', ry'], ⟨by omega, by omega, by omega, by omega⟩, p2 z1 H1 l1 R1 _ (it_rng i _)⟩
        | _ => exact p'.elim
      | _ => exact p'.elim
theorem piRng1 {b : Expr} {b' : Z.E} {p : Pos} (hg : Gl X "range") (hm : X.mg "range" = none) (hb : Zx X W E C b b') : PI X tg (.Call (.Name "range" p) [b] [] pos) (tI W E (evI C (.rng (.cst (.int 0)) b'))) := by
  refine ⟨fun pins s σ H R I ⟨z, ρ, h, re, rh, pp⟩ => ?_⟩
  have p' : Post W z E ((evE C b' ρ h).bnd fun y h2 => match PV.int 0, y with
    | .int i, .int j => grd (small i && small j && decide (i.natAbs < 2 ^ 62) && decide (j.natAbs < 2 ^ 62) && decide (j - i ≤ 1000000)) (.ok (rngL i (j - i).toNat, none) h2)
    | _, _ => .stuck) (KI W R) := pp
  refine (pi_range1 hg hm (zArgs (.cons hb .nil)) (by rw [starNo hb.ns]; rfl)).run pins s σ H R I ⟨z, ρ, h, re, rh, ?_⟩
  show Post W z E ((evE C b' ρ h).bnd fun v h1 => (Res.ok [] h1).bnd fun vs h2 => .ok (v :: vs) h2) _
  cases q : evE C b' ρ h with
  | stuck =>
    rw [q] at p'
    exact p'
  | exc x h1 =>
    rw [q] at p'
    exact p'
  | ok v h1 =>
    rw [q, Res.bnd_ok] at p'
    intro z1 H1 l1 R1 vs' r
    obtain ⟨y, rfl, ry⟩ := rvs1 r rfl
    cases v with
    | int j =>
      obtain ⟨g, p2⟩ := grd_ok p'
      have ry' : y = .int j := ry
      simp only [Bool.and_eq_true, decide_eq_true_eq] at g
      obtain ⟨⟨⟨⟨g1, g2⟩, g3⟩, g4⟩, g5⟩ := g
      refine ⟨j, by rw [ry'], by omega, by omega, ?_⟩
      have k := p2 z1 H1 l1 R1 _ (it_rng 0 _)
      rw [Int.sub_zero] at k
      exact k
    | _ => exact p'.elim
theorem piZip (hK : X.K = W.K) {a b : Expr} {a' b' : Z.E} {p tpos : Pos} {elts : List Expr} {kk : Nat} (hg : Gl X "zip") (hm : X.mg "zip" = none) (ha : Zx X W E C a a') (hb : Zx X W E C b b') : PI X (.Tuple elts kk tpos) (.Call (.Name "zip" p) [a, b] [] pos) (tI W E (evI C (.zip [a', b']))) := by
  refine ⟨fun pins s σ H R I ⟨z, ρ, h, re, rh, pp⟩ => ?_⟩
  have p' : Post W z E ((evEs C [a', b'] ρ h).bnd fun vs h1 => match vs with
    | [a, b] => match zipSeq a b with
      | some xs => .ok (xs, none) h1
      | none => .stuck
    | _ => .stuck) (KI W R) := pp
  refine (RZ.pi_zipA hg hm (zArgs (.cons ha (.cons hb .nil))) (starNo ha.ns) (by rw [starNo hb.ns]; rfl)).run pins s σ H R I ⟨z, ρ, h, re, rh, p'.bnd.imp fun z1 vs h1 H1 l1 R1 p1 us r => ?_⟩
  match vs, r, p1 with
  | [], _, p1 => exact p1.elim
  | [_], _, p1 => exact p1.elim
  | _ :: _ :: _ :: _, _, p1 => exact p1.elim
  | [v, u], r, p1 =>
    obtain ⟨x, y, rfl, rx, ry⟩ := rvs2 r rfl
    cases v with
    | lst xs =>
      cases u with
      | lst ys =>
        obtain ⟨a, rfl, k⟩ := lAt_lst rx
        obtain ⟨b, rfl, k2⟩ := lAt_lst ry
        obtain ⟨vs, hq, _⟩ := k z1 h1 H1 (.refl _) R1 rfl
        obtain ⟨ws, hq2, _⟩ := k2 z1 h1 H1 (.refl _) R1 rfl
        rw [hK]
        exact ⟨a, b, vs, ws, rfl, .inl ⟨hq, hq2, Post.ok p1 R1 _ (it_zipL k k2)⟩⟩
      | _ => exact p1.elim
    | tup xs =>
      cases u with
      | tup ys =>
        obtain ⟨a, rfl, k⟩ := tAt_tup rx
        obtain ⟨b, rfl, k2⟩ := tAt_tup ry
        obtain ⟨vs, hq, _⟩ := k z1 h1 H1 (.refl _) R1
        obtain ⟨ws, hq2, _⟩ := k2 z1 h1 H1 (.refl _) R1
        rw [hK]
        exact ⟨a, b, vs, ws, rfl, .inr ⟨hq, hq2, Post.ok p1 R1 _ (it_zipT k k2)⟩⟩
      | _ => exact p1.elim
    | _ => exact p1.elim
end
end Z
-- Z14
set_option Elab.async false
set_option linter.all false
set_option maxRecDepth 100000
set_option maxHeartbeats 1000000
/-! Layer Z, part 14: targets; list comprehensions. -/
namespace Z
open PySem PySem.Spec PyProof.Rows L2
section
variable {W : Sta} {z : Zn} {ρ : Env} {σ : L2.St} {h : AH} {H : Hp} {E : XK}
theorem RE.none (r : RE W z ρ σ) (i : Nat) : RE W z (ρ.set i .none) (σ.set i .none) := by
  refine ⟨by simp [r.len], fun j u e => ?_⟩
  by_cases hj : j = i
  · subst hj
    have hl : j < ρ.length := by
      have := (List.getElem?_eq_some_iff.mp e).1
      simpa using this
    rw [List.getElem?_set_self hl] at e
    cases e
  · rw [List.getElem?_set_ne (Ne.symm hj)] at e
    obtain ⟨w, a, b⟩ := r.at_ j u e
    exact ⟨w, by rw [List.getElem?_set_ne (Ne.symm hj)]; exact a, b⟩
theorem RE.wipe (r : RE W z ρ σ) : ∀ is : List Nat, RE W z (Z.wipe ρ is) (L2.wipe σ is)
  | [] => r
  | i :: t => (r.wipe t).none i
theorem wipe_set' (σ : L2.St) (i : Nat) (x y : Option V) : ∀ is : List Nat, (L2.wipe (σ.set i x) is).set i y = (L2.wipe σ is).set i y
  | [] => by
    show (σ.set i x).set i y = σ.set i y
    rw [List.set_set]
  | j :: r => by
    show ((L2.wipe (σ.set i x) r).set j .none).set i y = ((L2.wipe σ r).set j .none).set i y
    by_cases e : j = i
    · subst e
      rw [List.set_set, List.set_set]
      exact wipe_set' σ j x y r
    · rw [List.set_comm _ _ e, List.set_comm _ _ e, wipe_set' σ i x y r]
theorem wipe_set (σ : L2.St) (i : Nat) (x : Option V) : ∀ is : List Nat, i ∈ is → L2.wipe (σ.set i x) is = L2.wipe σ is
  | [], h => by simp at h
  | j :: r, h => by
    show (L2.wipe (σ.set i x) r).set j .none = (L2.wipe σ r).set j .none
    by_cases e : j = i
    · subst e
      exact wipe_set' σ j x .none r
    · have : i ∈ r := by
        rcases List.mem_cons.mp h with q | q
        · exact absurd q.symm e
        · exact q
      rw [wipe_set σ i x r this]
theorem wipe_wipe (σ : L2.St) (is : List Nat) : L2.wipe (L2.wipe σ is) is = L2.wipe σ is := by
  have : ∀ (js : List Nat) (τ : L2.St), (∀ j ∈ js, j ∈ is) → L2.wipe (L2.wipe τ js) is = L2.wipe τ is := fun js => by
    induction js with
    | nil => intro τ _; rfl
    | cons j r ih =>
      intro τ hj
      show L2.wipe ((L2.wipe τ r).set j .none) is = _
      rw [wipe_set _ _ _ _ (hj j (by simp)), ih τ fun k hk => hj k (by simp [hk])]
  exact this is σ fun _ h => h
/-! ### targets -/
def Apart (σ σ' : L2.St) (is : List Nat) : Prop := ∀ js : List Nat, (∀ i ∈ is, i ∈ js) → L2.wipe σ' js = L2.wipe σ js
theorem Apart.trans {σ' σ'' : L2.St} {is ks : List Nat} (a : Apart σ σ' is) (b : Apart σ' σ'' ks) : Apart σ σ'' (is ++ ks) := fun js k => by
  rw [b js fun i hi => k i (by simp [hi]), a js fun i hi => k i (by simp [hi])]
def tG (W : Sta) (t : T) : TG := fun v σ H Q => ∃ z pv ρ h ρ', RE W z ρ σ ∧ RH W z h H ∧ RV W z pv v ∧ setT h t pv ρ = some ρ' ∧ ∀ σ', RE W z ρ' σ' → Apart σ σ' t.slots → Q σ' H
def tGs (W : Sta) (ts : List T) : TGs := fun vs σ H Q => ∃ z pvs ρ h ρ', RE W z ρ σ ∧ RH W z h H ∧ RVs W z pvs vs ∧ setTs h ts pvs ρ = some ρ' ∧ ∀ σ', RE W z ρ' σ' → Apart σ σ' (slotsL ts) → Q σ' H
end
section
variable {X : Cx} {W : Sta} {E : XK} {C : Ctx} {σ : L2.St} {H : Hp} {pos : Pos}
theorem pgImp {X : Cx} {e : Expr} {t t' : TG} (p : PG X e t) (i : ∀ v σ H Q, t' v σ H Q → t v σ H Q) : PG X e t' := ⟨fun pins s σ H v u Q I r q => p.run pins s σ H v u Q I r (i v σ H Q q)⟩
theorem pgsImp {X : Cx} {e : List Expr} {t t' : TGs} (p : PGs X e t) (i : ∀ v σ H Q, t' v σ H Q → t v σ H Q) : PGs X e t' := ⟨fun pins s σ H v u Q I r q => p.run pins s σ H v u Q I r (i v σ H Q q)⟩
theorem gOfName {i : Nat} {x : Str} (hN : X.N.Nodup) (hi : X.N[i]? = some x) (hx : Loc X.env.scope x) (hf : X.fn x = true ∨ X.env.scope.names.lookup x = some .local) : PG X (.Name x pos) (tG W (.name i)) := by
  refine pgImp (pg_name hN hi hx hf) fun v σ H Q ⟨z, pv, ρ, h, ρ', re, rh, rv, e, q⟩ => ?_
  obtain ⟨c, rfl⟩ := ocond_some e
  exact q _ (re.set rv) fun js k => wipe_set σ i (some v) js (k i (by simp [T.slots]))
theorem gNil : PGs X [] (tGs W []) := by
  refine pgsImp pgs_nil fun vs σ H Q ⟨z, pvs, ρ, h, ρ', re, rh, rv, e, q⟩ => ?_
  cases pvs with
  | nil =>
    cases e
    exact ⟨rv, q σ re fun _ _ => rfl⟩
  | cons _ _ => cases e
theorem gCons {e : Expr} {es : List Expr} {t : T} {ts : List T} (h1 : PG X e (tG W t)) (h2 : PGs X es (tGs W ts)) (hs : isStar e = false) : PGs X (e :: es) (tGs W (t :: ts)) := by
  refine pgsImp (pgs_cons h1 h2 (by cases e <;> first | rfl | cases hs)) fun vs σ H Q ⟨z, pvs, ρ, h, ρ', re, rh, rv, e, q⟩ => ?_
  cases pvs with
  | nil => cases e
  | cons x xs =>
    obtain ⟨v, us, rfl, r1, r2⟩ := rv
    obtain ⟨ρ1, e1, e2⟩ := Option.bind_eq_some_iff.mp e
    exact ⟨v, us, rfl, z, x, ρ, h, ρ1, re, rh, r1, e1, fun σ1 re1 a1 => ⟨z, xs, ρ1, h, ρ', re1, rh, r2, e2, fun σ2 re2 a2 => q σ2 re2 (a1.trans a2)⟩⟩
theorem gTup (hK : X.K = W.K) (hc : X.calm = true) {es : List Expr} {ts : List T} {k : Nat} (hs : PGs X es (tGs W ts)) (hl : es.length = ts.length) (hn : (assignEach es X.env).length = es.length) (hst : (assignEach es X.env).findIdx? (·.1) = none) : PG X (.Tuple es k pos) (tG W (.tup ts)) := by
  have len : ∀ (h : AH) (ts : List T) (pvs : List PV) (ρ ρ' : Env), setTs h ts pvs ρ = some ρ' → pvs.length = ts.length := fun h ts => by
    induction ts with
    | nil =>
      intro pvs ρ ρ' e
      cases pvs with
      | nil => rfl
      | cons _ _ => cases e
    | cons t r ih =>
      intro pvs ρ ρ' e
      cases pvs with
      | nil => cases e
      | cons x xs =>
        obtain ⟨ρ1, _, e2⟩ := Option.bind_eq_some_iff.mp e
        rw [List.length_cons, List.length_cons, ih xs ρ1 ρ' e2]
  refine ⟨fun pins s σ H v u Q I r ⟨z, pv, ρ, h, ρ', re, rh, rv, e, q⟩ => ?_⟩
  unfold setT at e
  cases es0 : seqOf h pv with
  | none =>
    rw [es0] at e
    cases e
  | some xs =>
    rw [es0] at e
    obtain ⟨a, vs, rfl, hq, rvs⟩ := lkSq rh rv es0
    have l1 : vs.length = (assignEach es X.env).length := by
      rw [hn, hl, ← rvs.length]
      exact len h ts xs ρ ρ' e
    have fin : tGs W ts vs σ H Q := ⟨z, xs, ρ, h, ρ', re, rh, rvs, e, q⟩
    rw [← hK] at hq
    rcases hq with hq | hq
    · exact (pg_lst hc hs rfl hst).run pins s σ H _ u Q I r ⟨a, vs, rfl, hq, l1, fin⟩
    · exact (pg_tup hc hs rfl hst).run pins s σ H _ u Q I r ⟨a, vs, rfl, hq, l1, fin⟩
/-! ### list comprehensions -/
theorem compL_nex {g : Option (Nat × MO)} {f : PV → AH → Res (Option PV)} : ∀ (xs : List PV) (h : AH) (x : Ex) (h' : AH), compL g f xs h ≠ .exc x h'
  | [], h, x, h', e => by
    unfold compL at e
    cases q : grdOk g h <;> rw [q] at e <;> cases e
  | y :: r, h, x, h', e => by
    unfold compL at e
    cases q : grdOk g h
    · rw [q] at e
      cases e
    · rw [q, grd_true] at e
      cases q2 : f y h with
      | stuck =>
        rw [q2] at e
        cases e
      | exc _ _ =>
        rw [q2] at e
        cases e
      | ok o h1 =>
        rw [q2, Res.nox_ok, Res.bnd_ok] at e
        cases q3 : compL g f r h1 with
        | stuck =>
          rw [q3] at e
          cases e
        | exc x2 h2 => exact compL_nex r h1 x2 h2 q3
        | ok _ _ =>
          rw [q3] at e
          cases e

abbrev E0' : XK := fun _ _ _ => False
theorem le_add {z z1 : Zn} {p : Addr} {o : HO} (L : z.Le z1) (n : z.rs p = none) : z.Le (addRs z1 p o) := by
  refine ⟨L.mp, L.fz, fun a u e => ?_⟩
  have q : a ≠ p := fun q => by
    rw [q, n] at e
    cases e
  show (if a = p then some o else z1.rs a) = some u
  rw [if_neg q]
  exact L.rs a u e
/-- the thing at D holds what has come so far; the rest gives what is wanted -/
structure Lc (W : Sta) (E : XK) (z1 : Zn) (g : Option (Nat × MO)) (f : PV → AH → Res (Option PV)) (K : Zn → MO → AH → Hp → Prop) (D : Addr) (xs : List PV) (i m : Nat) (H : Hp) : Prop where
  ex : ∃ z2 h2 acc av, z1.Le z2 ∧ z2.rs D = some (.lst av) ∧ RVs W z2 acc av ∧ RH W z2 h2 H ∧ m = xs.length - i ∧
    Post W z1 E ((compL g f (xs.drop i) h2).bnd fun vs h3 => grd (decide ((acc ++ vs).length ≤ zLine)) (.ok (.lst (acc ++ vs)) h3)) K
def lcBody (C : Ctx) (ρ : Env) (own : List Nat) (t : T) (ifs : List Z.E) (elt : Z.E) (x : PV) (h2 : AH) : Res (Option PV) := match setT h2 t x (Z.wipe ρ own) with
  | some ρ' => (evIfs C ifs ρ' h2).bnd fun k h3 => match k with
    | true => (evE C elt ρ' h3).bnd fun v h4 => .ok (some v) h4
    | false => .ok none h3
  | none => .stuck
/-- what one turn is made of -/
theorem turn_inv {z1 : Zn} {g : Option (Nat × MO)} {f : PV → AH → Res (Option PV)} {K : Zn → MO → AH → Hp → Prop} {x : PV} {r : List PV} {h2 : AH} {acc : List PV}
    (p : Post W z1 E ((compL g f (x :: r) h2).bnd fun vs h3 => grd (decide ((acc ++ vs).length ≤ zLine)) (.ok (.lst (acc ++ vs)) h3)) K) :
    grdOk g h2 = true ∧ ∃ o h3, f x h2 = .ok o h3 ∧ (∀ v, o = some v → acc.length < zLine) ∧ Post W z1 E ((compL g f r h3).bnd fun vs h4 => grd (decide (((acc ++ o.toList) ++ vs).length ≤ zLine)) (.ok (.lst ((acc ++ o.toList) ++ vs)) h4)) K := by
  unfold compL at p
  cases q : grdOk g h2 with
  | false =>
    rw [q] at p
    exact p.elim
  | true =>
    rw [q, grd_true] at p
    refine ⟨rfl, ?_⟩
    cases q2 : f x h2 with
    | stuck =>
      rw [q2] at p
      exact p.elim
    | exc _ _ =>
      rw [q2] at p
      exact p.elim
    | ok o h3 =>
      rw [q2, Res.nox_ok, Res.bnd_ok] at p
      cases q3 : compL g f r h3 with
      | stuck =>
        rw [q3] at p
        exact p.elim
      | exc x2 h2 => exact absurd q3 (compL_nex r h3 x2 h2)
      | ok vs h4 =>
        rw [q3, Res.bnd_ok, Res.bnd_ok] at p
        refine ⟨o, h3, rfl, fun v e => ?_, ?_⟩
        · subst e
          obtain ⟨gg, _⟩ := grd_ok p
          have := of_decide_eq_true gg
          simp only [List.length_append, List.length_cons] at this
          omega
        · rw [q3, Res.bnd_ok]
          cases o with
          | none => simpa using p
          | some v => simpa using p
theorem lcZ {own : List Nat} {elt : Z.E} {t : T} {it : Z.I} {ifs : List Z.E} {Q : VK} (hsl : ∀ i ∈ t.slots, i ∈ own) (q : tAl W E (evA C (.comp own elt t it ifs)) σ H Q) :
    tLc (tI W E (evI C it)) (tG W t) (tT W E0' (evIfs C ifs)) (tE W E0' (evE C elt)) own σ H Q := by
  obtain ⟨z, ρ, h, re, rh, p⟩ := q
  have p' : Post W z E ((evI C it ρ h).bnd fun p h1 => (compL p.2 (lcBody C ρ own t ifs elt) p.1 h1).bnd fun vs h2 => grd (decide (vs.length ≤ zLine)) (.ok (.lst vs) h2)) (KA W Q) := p
  refine ⟨z, ρ, h, re, rh, p'.bnd.imp fun z1 xg h1 H1 l1 R1 p1 J ok D hD => ?_⟩
  obtain ⟨xs, g⟩ := xg
  have re1 := (re.mono l1).wipe own
  have nD : z1.rs D = none := R1.notrs hD
  refine ⟨fun i m H => i ≤ xs.length ∧ Lc W E z1 g (lcBody C ρ own t ifs elt) (KA W Q) D xs i m H, ⟨xs.length, Nat.zero_le _, addRs z1 D (.lst []), h1, [], [], le_rs R1 hD, rs_at, RVs.nil, R1.newRs hD rfl, rfl, p1⟩, ?_⟩
  rintro i m H2 ⟨hi, z2, h2, acc, av, l2, rs2, ra, R2, hm, p2⟩
  by_cases hil : i < xs.length
  · right
    have ed : xs.drop i = xs[i] :: xs.drop (i + 1) := (List.getElem_cons_drop hil).symm
    rw [ed] at p2
    obtain ⟨gk, o, h3, eb, hz, p3⟩ := turn_inv p2
    refine ⟨ok.go z2 h2 H2 i l2.le0 R2 gk hil, fun H' => ∃ m', m' < m ∧ (i + 1 ≤ xs.length ∧ Lc W E z1 g (lcBody C ρ own t ifs elt) (KA W Q) D xs (i + 1) m' H'), fun H' k => k, fun x H' y => ?_⟩
    obtain ⟨z3, l3, R3, rx⟩ := ok.yld z2 h2 H2 i xs[i] x H' l2.le0 R2 gk (List.getElem?_eq_getElem hil) y
    unfold lcBody at eb
    cases es : setT h2 t xs[i] (Z.wipe ρ own) with
    | none =>
      rw [es] at eb
      cases eb
    | some ρ' =>
      rw [es] at eb
      refine ⟨z3, xs[i], Z.wipe ρ own, h2, ρ', (re1.mono l2).mono l3, R3, rx, es, fun σ' re' ap => ⟨?_, ?_⟩⟩
      · rw [ap own hsl, wipe_wipe]
      · obtain ⟨k, h4, ei, e2⟩ := bnd_ok_inv eb
        refine ⟨z3, ρ', h2, re', R3, ?_⟩
        rw [ei]
        intro z4 H4 l4 R4
        have l14 : z1.Le z4 := (l2.trans l3).trans l4
        cases k with
        | false =>
          simp only []
          rw [if_neg (by decide)]
          cases e2
          refine ⟨xs.length - (i + 1), by omega, hil, z4, _, acc, av, l14, (l4.rs _ _ (l3.rs _ _ rs2)), RVs.mono (l3.trans l4) _ _ ra, R4, rfl, ?_⟩
          simpa using p3
        | true =>
          simp only []
          rw [if_pos trivial]
          obtain ⟨v, h5, ee, e3⟩ := bnd_ok_inv e2
          cases e3
          refine ⟨z4, ρ', h4, re'.mono l4, R4, ?_⟩
          rw [ee]
          intro z5 H5 l5 R5 v' rv
          have rs5 : z5.rs D = some (.lst av) := l5.rs _ _ (l4.rs _ _ (l3.rs _ _ rs2))
          have ra5 : RVs W z5 acc av := RVs.mono ((l3.trans l4).trans l5) _ _ ra
          refine ⟨av, (R5.rs D _ rs5).1, ?_, xs.length - (i + 1), by omega, hil, addRs z5 D (.lst (av ++ [v'])), _, acc ++ [v], av ++ [v'], le_add (l14.trans l5) nD, rs_at, RVs.rsi (z := z5) (z' := addRs z5 D (.lst (av ++ [v']))) rfl rfl _ _ (ra5.append (RVs.cons rv RVs.nil)), R5.setRs rs5 rfl, rfl, ?_⟩
          · rw [← ra5.length, ← zLine_eq]
            exact hz v rfl
          · simpa using p3
  · left
    have hx : xs.length ≤ i := by omega
    rw [List.drop_eq_nil_of_le hx] at p2
    have p3 : Post W z1 E ((grd (grdOk g h2) (.ok [] h2)).bnd fun vs h3 => grd (decide ((acc ++ vs).length ≤ zLine)) (.ok (.lst (acc ++ vs)) h3)) (KA W Q) := p2
    cases gk : grdOk g h2 with
    | false =>
      rw [gk] at p3
      exact p3.elim
    | true =>
      rw [gk, grd_true, Res.bnd_ok, List.append_nil] at p3
      obtain ⟨_, p4⟩ := grd_ok p3
      refine ⟨ok.stop z2 h2 H2 i l2.le0 R2 gk hx, ?_⟩
      have k := p4 (dropRs z2 D) (offH H2 D) (le_drop l2 nD) (R2.offRs rs2) D (.lst av) off_at ⟨av, rfl, RVs.rsi (z := z2) (z' := dropRs z2 D) rfl rfl _ _ ra⟩
      rw [upd_off (R2.rs D _ rs2).1] at k
      exact k
/-- a comprehension's tests -/
theorem ifsT : ∀ {ifs : List Expr} {ifs' : List Z.E}, Zxs X W E C ifs ifs' → ifs'.length ≤ 1 → PTs X ifs (tT W E (evIfs C ifs'))
  | _, _, .nil, _ => ⟨fun pins s σ H Q I ⟨z, ρ, h, re, rh, p⟩ => by
      have p' : Post W z E (.ok true h) fun _ b _ H' => Q b H' := p
      exact pts_nil.run pins s σ H Q I (Post.ok p' rh)⟩
  | _, _, .cons a .nil, _ => pts_one a.pt
  | _, _, .cons _ (.cons _ _), l => by simp at l
end
end Z
-- Z15
set_option Elab.async false
set_option linter.all false
set_option maxRecDepth 100000
set_option maxHeartbeats 1000000
/-! Layer Z, part 15: list comprehensions with two fors. -/
namespace Z
open PySem PySem.Spec PyProof.Rows L2
section
variable {X : Cx} {W : Sta} {E : XK} {C : Ctx} {σ : L2.St} {H : Hp} {pos : Pos}
theorem compL2_nex {g : Option (Nat × MO)} {f : PV → AH → Res (List PV)} : ∀ (xs : List PV) (h : AH) (x : Ex) (h' : AH), compL2 g f xs h ≠ .exc x h'
  | [], h, x, h', e => by
    unfold compL2 at e
    cases q : grdOk g h <;> rw [q] at e <;> cases e
  | y :: r, h, x, h', e => by
    unfold compL2 at e
    cases q : grdOk g h
    · rw [q] at e
      cases e
    · rw [q, grd_true] at e
      cases q2 : f y h with
      | stuck =>
        rw [q2] at e
        cases e
      | exc _ _ =>
        rw [q2] at e
        cases e
      | ok o h1 =>
        rw [q2, Res.nox_ok, Res.bnd_ok] at e
        cases q3 : compL2 g f r h1 with
        | stuck =>
          rw [q3] at e
          cases e
        | exc x2 h2 => exact compL2_nex r h1 x2 h2 q3
        | ok _ _ =>
          rw [q3] at e
          cases e
structure Lc2 (W : Sta) (E : XK) (z1 : Zn) (g : Option (Nat × MO)) (f : PV → AH → Res (List PV)) (K : Zn → MO → AH → Hp → Prop) (D : Addr) (xs : List PV) (i m : Nat) (H : Hp) : Prop where
  ex : ∃ z2 h2 acc av, z1.Le z2 ∧ z2.rs D = some (.lst av) ∧ RVs W z2 acc av ∧ RH W z2 h2 H ∧ m = xs.length - i ∧
    Post W z1 E ((compL2 g f (xs.drop i) h2).bnd fun vs h3 => grd (decide ((acc ++ vs).length ≤ zLine)) (.ok (.lst (acc ++ vs)) h3)) K
def lc2Body (C : Ctx) (ρ : Env) (own : List Nat) (t : T) (t2 : T) (it2 : Z.I) (ifs : List Z.E) (elt : Z.E) (x : PV) (h2 : AH) : Res (List PV) := match setT h2 t x (Z.wipe ρ own) with
  | some ρ' => (evI C it2 ρ' h2).bnd fun q h3 => compL q.2 (lcBody C ρ' t2.slots t2 ifs elt) q.1 h3
  | none => .stuck
theorem turn_inv2 {z1 : Zn} {g : Option (Nat × MO)} {f : PV → AH → Res (List PV)} {K : Zn → MO → AH → Hp → Prop} {x : PV} {r : List PV} {h2 : AH} {acc : List PV}
    (p : Post W z1 E ((compL2 g f (x :: r) h2).bnd fun vs h3 => grd (decide ((acc ++ vs).length ≤ zLine)) (.ok (.lst (acc ++ vs)) h3)) K) :
    grdOk g h2 = true ∧ ∃ o h3, f x h2 = .ok o h3 ∧ (acc ++ o).length ≤ zLine ∧ Post W z1 E ((compL2 g f r h3).bnd fun vs h4 => grd (decide (((acc ++ o) ++ vs).length ≤ zLine)) (.ok (.lst ((acc ++ o) ++ vs)) h4)) K := by
  unfold compL2 at p
  cases q : grdOk g h2 with
  | false =>
    rw [q] at p
    exact p.elim
  | true =>
    rw [q, grd_true] at p
    refine ⟨rfl, ?_⟩
    cases q2 : f x h2 with
    | stuck =>
      rw [q2] at p
      exact p.elim
    | exc _ _ =>
      rw [q2] at p
      exact p.elim
    | ok o h3 =>
      rw [q2, Res.nox_ok, Res.bnd_ok] at p
      cases q3 : compL2 g f r h3 with
      | stuck =>
        rw [q3] at p
        exact p.elim
      | exc x2 h2 => exact absurd q3 (compL2_nex r h3 x2 h2)
      | ok vs h4 =>
        rw [q3, Res.bnd_ok, Res.bnd_ok] at p
        refine ⟨o, h3, rfl, ?_, ?_⟩
        · obtain ⟨gg, _⟩ := grd_ok p
          have := of_decide_eq_true gg
          simp only [List.length_append] at this ⊢
          omega
        · rw [q3, Res.bnd_ok]
          simpa using p
/-- the inner loop: what is still to come is known -/
structure Li (W : Sta) (C : Ctx) (z1 : Zn) (g : Option (Nat × MO)) (f : PV → AH → Res (Option PV)) (D : Addr) (ys : List PV) (all : List PV) (hE : AH) (j k : Nat) (H : Hp) : Prop where
  ex : ∃ z3 h3 acc av vs, z1.Le0 z3 ∧ z3.rs D = some (.lst av) ∧ RVs W z3 acc av ∧ RH W z3 h3 H ∧ k = ys.length - j ∧ j ≤ ys.length ∧ compL g f (ys.drop j) h3 = .ok vs hE ∧ all = acc ++ vs
theorem compL_cons {g : Option (Nat × MO)} {f : PV → AH → Res (Option PV)} {x : PV} {r : List PV} {h hE : AH} {vs : List PV} (e : compL g f (x :: r) h = .ok vs hE) : grdOk g h = true ∧ ∃ o h1 vs', f x h = .ok o h1 ∧ compL g f r h1 = .ok vs' hE ∧ vs = o.toList ++ vs' := by
  unfold compL at e
  cases q : grdOk g h with
  | false =>
    rw [q] at e
    cases e
  | true =>
    rw [q, grd_true] at e
    refine ⟨rfl, ?_⟩
    obtain ⟨o, h1, e1, e2⟩ := bnd_ok_inv e
    obtain ⟨vs', h2, e3, e4⟩ := bnd_ok_inv e2
    have e5 : f x h = .ok o h1 := by
      cases q2 : f x h with
      | ok a b =>
        rw [q2] at e1
        exact e1
      | exc _ _ =>
        rw [q2] at e1
        cases e1
      | stuck =>
        rw [q2] at e1
        cases e1
    refine ⟨o, h1, vs', e5, ?_, ?_⟩
    · cases o <;> (cases e4; exact e3)
    · cases o <;> (cases e4; rfl)
theorem compL_nil {g : Option (Nat × MO)} {f : PV → AH → Res (Option PV)} {h hE : AH} {vs : List PV} (e : compL g f [] h = .ok vs hE) : grdOk g h = true ∧ vs = [] ∧ h = hE := by
  unfold compL at e
  cases q : grdOk g h with
  | false =>
    rw [q] at e
    cases e
  | true =>
    rw [q] at e
    cases e
    exact ⟨rfl, rfl, rfl⟩
theorem lc2Z {own : List Nat} {elt : Z.E} {t t2 : T} {it it2 : Z.I} {ifs : List Z.E} {Q : VK} (hsl : ∀ i ∈ t.slots, i ∈ own) (q : tAl W E (evA C (.comp2 own elt t it t2 it2 ifs)) σ H Q) :
    tLc2 (tI W E (evI C it)) (tG W t) tYes (tI W E0' (evI C it2)) (tG W t2) (tT W E0' (evIfs C ifs)) (tE W E0' (evE C elt)) own t2.slots σ H Q := by
  obtain ⟨z, ρ, h, re, rh, p⟩ := q
  have p' : Post W z E ((evI C it ρ h).bnd fun p h1 => (compL2 p.2 (lc2Body C ρ own t t2 it2 ifs elt) p.1 h1).bnd fun vs h2 => grd (decide (vs.length ≤ zLine)) (.ok (.lst vs) h2)) (KA W Q) := p
  refine ⟨z, ρ, h, re, rh, p'.bnd.imp fun z1 xg h1 H1 l1 R1 p1 J ok D hD => ?_⟩
  obtain ⟨xs, g⟩ := xg
  have re1 := (re.mono l1).wipe own
  have nD : z1.rs D = none := R1.notrs hD
  refine ⟨fun i m H => i ≤ xs.length ∧ Lc2 W E z1 g (lc2Body C ρ own t t2 it2 ifs elt) (KA W Q) D xs i m H, ⟨xs.length, Nat.zero_le _, addRs z1 D (.lst []), h1, [], [], le_rs R1 hD, rs_at, RVs.nil, R1.newRs hD rfl, rfl, p1⟩, ?_⟩
  rintro i m H2 ⟨hi, z2, h2, acc, av, l2, rs2, ra, R2, hm, p2⟩
  by_cases hil : i < xs.length
  · right
    have ed : xs.drop i = xs[i] :: xs.drop (i + 1) := (List.getElem_cons_drop hil).symm
    rw [ed] at p2
    obtain ⟨gk, us, hE, eb, hz, p3⟩ := turn_inv2 p2
    refine ⟨ok.go z2 h2 H2 i l2.le0 R2 gk hil, fun H' => ∃ m', m' < m ∧ (i + 1 ≤ xs.length ∧ Lc2 W E z1 g (lc2Body C ρ own t t2 it2 ifs elt) (KA W Q) D xs (i + 1) m' H'), fun H' k => k, fun x H' y => ?_⟩
    obtain ⟨z3, l3, R3, rx⟩ := ok.yld z2 h2 H2 i xs[i] x H' l2.le0 R2 gk (List.getElem?_eq_getElem hil) y
    unfold lc2Body at eb
    cases es : setT h2 t xs[i] (Z.wipe ρ own) with
    | none =>
      rw [es] at eb
      cases eb
    | some ρ' =>
      rw [es] at eb
      refine ⟨z3, xs[i], Z.wipe ρ own, h2, ρ', (re1.mono l2).mono l3, R3, rx, es, fun σ' re' ap => ⟨?_, ?_⟩⟩
      · rw [ap own hsl, wipe_wipe]
      · unfold tYes
        simp only []
        rw [if_pos trivial]
        obtain ⟨yg, h4, ei, e2⟩ := bnd_ok_inv eb
        obtain ⟨ys, g2⟩ := yg
        refine ⟨z3, ρ', h2, re', R3, ?_⟩
        rw [ei]
        intro z4 H4 l4 R4 J1 ok1
        have rs4 : z4.rs D = some (.lst av) := l4.rs _ _ (l3.rs _ _ rs2)
        have l14 : z1.Le z4 := (l2.trans l3).trans l4
        refine ⟨fun j k H => z1.Le0 z4 ∧ (∃ z5, z5 = z4) ∧ ∃ z5 h5 acc5 av5 vs5, z4.Le0 z5 ∧ z1.Le z5 ∧ z5.rs D = some (.lst av5) ∧ RVs W z5 acc5 av5 ∧ RH W z5 h5 H ∧ k = ys.length - j ∧ j ≤ ys.length ∧ compL g2 (lcBody C ρ' t2.slots t2 ifs elt) (ys.drop j) h5 = .ok vs5 hE ∧ acc ++ us = acc5 ++ vs5,
          ⟨ys.length, l14.le0, ⟨z4, rfl⟩, z4, h4, acc, av, us, .refl _, l14, rs4, RVs.mono (l3.trans l4) _ _ ra, R4, rfl, Nat.zero_le _, e2, rfl⟩, ?_⟩
        rintro j k H5 ⟨_, _, z5, h5, acc5, av5, vs5, l45, l15, rs5, ra5, R5, hk, hj, e5, hall⟩
        by_cases hjl : j < ys.length
        · right
          have ed2 : ys.drop j = ys[j] :: ys.drop (j + 1) := (List.getElem_cons_drop hjl).symm
          rw [ed2] at e5
          obtain ⟨gk2, o, h6, vs6, eo, er, ev⟩ := compL_cons e5
          refine ⟨ok1.go z5 h5 H5 j l45 R5 gk2 hjl, _, fun H' q => q, fun y H' yy => ?_⟩
          obtain ⟨z6, l6, R6, ry⟩ := ok1.yld z5 h5 H5 j ys[j] y H' l45 R5 gk2 (List.getElem?_eq_getElem hjl) yy
          unfold lcBody at eo
          cases es2 : setT h5 t2 ys[j] (Z.wipe ρ' t2.slots) with
          | none =>
            rw [es2] at eo
            cases eo
          | some ρ2 =>
            rw [es2] at eo
            have re6 : RE W z6 ρ' σ' := ⟨re'.len, fun i v e => by
              obtain ⟨v', q1, q2⟩ := (re'.mono l4).at_ i v e
              exact ⟨v', q1, RV.mono0 (l45.trans l6.le0) _ _ q2⟩⟩
            refine ⟨z6, ys[j], Z.wipe ρ' t2.slots, h5, ρ2, re6.wipe _, R6, ry, es2, fun σ3 re3 ap3 => ⟨?_, ?_⟩⟩
            · rw [ap3 t2.slots (fun _ h => h), wipe_wipe]
            · obtain ⟨kk, h7, ei7, e7⟩ := bnd_ok_inv eo
              refine ⟨z6, ρ2, h5, re3, R6, ?_⟩
              rw [ei7]
              intro z7 H7 l7 R7
              have l17 : z1.Le z7 := (l15.trans l6).trans l7
              have l47 : z4.Le0 z7 := (l45.trans l6.le0).trans l7.le0
              cases kk with
              | false =>
                simp only []
                rw [if_neg (by decide)]
                cases e7
                refine ⟨ys.length - (j + 1), by omega, l14.le0, ⟨z4, rfl⟩, z7, _, acc5, av5, vs6, l47, l17, l7.rs _ _ (l6.rs _ _ rs5), RVs.mono (l6.trans l7) _ _ ra5, R7, rfl, hjl, er, ?_⟩
                rw [hall, ev]
                rfl
              | true =>
                simp only []
                rw [if_pos trivial]
                obtain ⟨v, h8, ee, e8⟩ := bnd_ok_inv e7
                cases e8
                refine ⟨z7, ρ2, h7, re3.mono l7, R7, ?_⟩
                rw [ee]
                intro z8 H8 l8 R8 v' rv
                have rs8 : z8.rs D = some (.lst av5) := l8.rs _ _ (l7.rs _ _ (l6.rs _ _ rs5))
                have ra8 : RVs W z8 acc5 av5 := RVs.mono ((l6.trans l7).trans l8) _ _ ra5
                have hall' : acc ++ us = (acc5 ++ [v]) ++ vs6 := by
                  rw [hall, ev]
                  simp
                refine ⟨av5, (R8.rs D _ rs8).1, ?_, ys.length - (j + 1), by omega, l14.le0, ⟨z4, rfl⟩, addRs z8 D (.lst (av5 ++ [v'])), _, acc5 ++ [v], av5 ++ [v'], vs6, le0_add (l47.trans l8.le0), le_add (l17.trans l8) nD, rs_at, RVs.rsi (z := z8) (z' := addRs z8 D (.lst (av5 ++ [v']))) rfl rfl _ _ (ra8.append (RVs.cons rv RVs.nil)), R8.setRs rs8 rfl, rfl, hjl, er, hall'⟩
                rw [← ra8.length, ← zLine_eq]
                have := hz
                rw [hall'] at this
                simp only [List.length_append, List.length_cons, List.length_nil] at this
                omega
        · left
          have hx : ys.length ≤ j := by omega
          rw [List.drop_eq_nil_of_le hx] at e5
          obtain ⟨gk2, e6, e7⟩ := compL_nil e5
          subst e6 e7
          refine ⟨ok1.stop z5 h5 H5 j l45 R5 gk2 hx, xs.length - (i + 1), by omega, hil, z5, h5, acc5, av5, l15, rs5, ra5, R5, rfl, ?_⟩
          rw [List.append_nil] at hall
          rw [← hall]
          exact p3
  · left
    have hx : xs.length ≤ i := by omega
    rw [List.drop_eq_nil_of_le hx] at p2
    have p3 : Post W z1 E ((grd (grdOk g h2) (.ok [] h2)).bnd fun vs h3 => grd (decide ((acc ++ vs).length ≤ zLine)) (.ok (.lst (acc ++ vs)) h3)) (KA W Q) := p2
    cases gk : grdOk g h2 with
    | false =>
      rw [gk] at p3
      exact p3.elim
    | true =>
      rw [gk, grd_true, Res.bnd_ok, List.append_nil] at p3
      obtain ⟨_, p4⟩ := grd_ok p3
      refine ⟨ok.stop z2 h2 H2 i l2.le0 R2 gk hx, ?_⟩
      have k := p4 (dropRs z2 D) (offH H2 D) (le_drop l2 nD) (R2.offRs rs2) D (.lst av) off_at ⟨av, rfl, RVs.rsi (z := z2) (z' := dropRs z2 D) rfl rfl _ _ ra⟩
      rw [upd_off (R2.rs D _ rs2).1] at k
      exact k
end
end Z
-- Z16
set_option Elab.async false
set_option linter.all false
set_option maxRecDepth 100000
set_option maxHeartbeats 1000000
/-! Layer Z, part 16: statements. -/
namespace Z
open PySem PySem.Spec PyProof.Rows L2
def KS (W : Sta) (D : Ends) : Zn → Out → AH → Hp → Prop := fun z o _ H => match o with
  | .next ρ' => ∀ σ', RE W z ρ' σ' → D.nx σ' H
  | .ret v => ∀ v', RV W z v v' → D.rt v' H
def tS (W : Sta) (E : XK) (f : Env → AH → Res Out) : TS := fun D σ H => ∃ z ρ h, RE W z ρ σ ∧ RH W z h H ∧ Post W z E (f ρ h) (KS W D)
section
variable {X : Cx} {W : Sta} {E : XK} {C : Ctx} {σ : L2.St} {H : Hp} {pos : Pos}
theorem zsNil : PSs X [] (tS W E (evSs C [])) := by
  refine pss_nil.imp fun D σ H ⟨z, ρ, h, re, rh, p⟩ => ?_
  have p' : Post W z E (.ok (.next ρ) h) (KS W D) := p
  exact Post.ok p' rh σ re
theorem zsCons {s : Stmt} {r : List Stmt} {s' : Z.S} {r' : List Z.S} (h1 : PS X s (tS W E (evS C s'))) (h2 : PSs X r (tS W E (evSs C r'))) : PSs X (s :: r) (tS W E (evSs C (s' :: r'))) := by
  refine (pss_cons h1 h2).imp fun D σ H ⟨z, ρ, h, re, rh, p⟩ => ?_
  have p' : Post W z E ((evS C s' ρ h).bnd fun o h1 => match o with
    | .next ρ' => evSs C r' ρ' h1
    | .ret v => .ok (.ret v) h1) (KS W D) := p
  refine ⟨z, ρ, h, re, rh, p'.bnd.imp fun z1 o h1 H1 l1 R1 p1 => ?_⟩
  cases o with
  | next ρ' => exact fun σ' re' => ⟨z1, ρ', h1, re', R1, p1⟩
  | ret v => exact fun v' r => (Post.ok (E := E) (K := KS W D) p1 R1) v' r
theorem zsExpr {e : Expr} {e' : Z.E} (he : PE X e (tE W E (evE C e'))) (hs : swapsWith e none pos.line X.env = pure false) : PS X (.Expr e pos) (tS W E (evS C (.expr e'))) := by
  refine (ps_expr he hs).imp fun D σ H ⟨z, ρ, h, re, rh, p⟩ => ?_
  have p' : Post W z E ((evE C e' ρ h).bnd fun _ h1 => .ok (.next ρ) h1) (KS W D) := p
  exact ⟨z, ρ, h, re, rh, p'.bnd.imp fun z1 v h1 H1 l1 R1 p1 v1 r1 => Post.ok p1 R1 σ (re.mono l1)⟩
theorem zsRet {e : Expr} {e' : Z.E} (he : PE X e (tE W E (evE C e'))) : PS X (.Return (some e) pos) (tS W E (evS C (.ret e'))) := by
  refine (ps_ret he).imp fun D σ H ⟨z, ρ, h, re, rh, p⟩ => ?_
  have p' : Post W z E ((evE C e' ρ h).bnd fun v h1 => .ok (.ret v) h1) (KS W D) := p
  exact ⟨z, ρ, h, re, rh, p'.bnd.imp fun z1 v h1 H1 l1 R1 p1 v1 r1 => Post.ok p1 R1 v1 r1⟩
theorem zsRetN : PS X (.Return none pos) (tS W E (evS C (.ret (.cst .non)))) := by
  refine ps_retN.imp fun D σ H ⟨z, ρ, h, re, rh, p⟩ => ?_
  have p' : Post W z E (.ok (.ret .non) h) (KS W D) := p
  exact Post.ok p' rh .non rfl
theorem zsPass : PS X (.Pass pos) (tS W E (evS C .pass)) := by
  refine ps_pass.imp fun D σ H ⟨z, ρ, h, re, rh, p⟩ => ?_
  have p' : Post W z E (.ok (.next ρ) h) (KS W D) := p
  exact Post.ok p' rh σ re
theorem tst_split {z : Zn} {c' : Z.E} {ρ : Env} {h : AH} {α : Type} {f g : AH → Res α} {K : Zn → α → AH → Hp → Prop} (re : RE W z ρ σ)
    (p : Post W z E ((evE C c' ρ h).bnd fun v h1 => match tru h1 v with
    | some true => f h1
    | some false => g h1
    | none => .stuck) K) : Post W z E (tstR (evE C c') ρ h) fun z1 b h1 H1 => RE W z1 ρ σ ∧ Post W z1 E (if b = true then f h1 else g h1) K := by
  show Post W z E ((evE C c' ρ h).bnd fun v h1 => ofO h1 (tru h1 v)) _
  cases q0 : evE C c' ρ h with
  | stuck =>
    rw [q0] at p
    exact p
  | exc x h =>
    rw [q0] at p
    exact p
  | ok v h1 =>
    rw [q0, Res.bnd_ok] at p
    rw [Res.bnd_ok]
    cases q : tru h1 v with
    | none =>
      rw [q] at p
      exact p
    | some k =>
      rw [q] at p
      intro z1 H1 l1 R1
      refine ⟨re.mono l1, ?_⟩
      cases k with
      | true => exact Post.mono l1 p
      | false => exact Post.mono l1 p
theorem zsIf {c : Expr} {c' : Z.E} {a b : List Stmt} {a' b' : List Z.S} (hc : PT X c (tT W E (tstR (evE C c')))) (ha : PSs X a (tS W E (evSs C a'))) (hb : PSs X b (tS W E (evSs C b'))) : PS X (.If c a b pos) (tS W E (evS C (.ife c' a' b'))) := by
  refine (ps_if hc ha hb).imp fun D σ H ⟨z, ρ, h, re, rh, p⟩ => ?_
  have p' : Post W z E ((evE C c' ρ h).bnd fun v h1 => match tru h1 v with
    | some true => evSs C a' ρ h1
    | some false => evSs C b' ρ h1
    | none => .stuck) (KS W D) := p
  refine ⟨z, ρ, h, re, rh, (tst_split re p').imp fun z1 k h1 H1 l1 R1 ⟨re1, p1⟩ => ?_⟩
  cases k with
  | true => exact ⟨z1, ρ, h1, re1, R1, p1⟩
  | false => exact ⟨z1, ρ, h1, re1, R1, p1⟩
/-! ### stores -/
theorem zsAsg {i : Nat} {x : Str} {e : Expr} {e' : Z.E} {pos' : Pos} (hN : X.N.Nodup) (hi : X.N[i]? = some x) (hx : Loc X.env.scope x) (hf : X.fn x = true ∨ X.env.scope.names.lookup x = some .local) (he : PE X e (tE W E (evE C e')))
    (hs : swapsWith e (some (.Name x pos')) pos.line X.env = pure false) : PS X (.Assign [.Name x pos'] e pos) (tS W E (evS C (.asg i e'))) := by
  refine (ps_set hN hi hx he hs hf).imp fun D σ H ⟨z, ρ, h, re, rh, p⟩ => ?_
  have p' : Post W z E ((evE C e' ρ h).bnd fun v h1 => grd (decide (i < ρ.length)) (.ok (.next (ρ.set i (some v))) h1)) (KS W D) := p
  refine ⟨z, ρ, h, re, rh, p'.bnd.imp fun z1 v h1 H1 l1 R1 p1 v1 r1 => ?_⟩
  obtain ⟨_, p2⟩ := grd_ok p1
  exact Post.ok p2 R1 _ ((re.mono l1).set r1)
/-- name = [.. for ..] -/
theorem asgAl {i : Nat} {a' : Z.A} {t : TE} {Dn : Ends} (mm : Bool) (k : ∀ Q, tAl W E (evA C a') σ H Q → t σ H Q) (q : tS W E (evS C (.asg i (if mm = true then .mut a' else .frz a'))) Dn σ H) : tAsg t (gName i) Dn σ H := by
  obtain ⟨z, ρ, h, re, rh, p⟩ := q
  refine k _ ?_
  cases mm with
  | true =>
    have p' : Post W z E (((evA C a' ρ h).bnd fun m h1 => .ok (.ref h1.length) (h1 ++ [m])).bnd fun v h1 => grd (decide (i < ρ.length)) (.ok (.next (ρ.set i (some v))) h1)) (KS W Dn) := p
    refine ⟨z, ρ, h, re, rh, ?_⟩
    cases e : evA C a' ρ h with
    | stuck =>
      rw [e] at p'
      exact p'
    | exc x h1 =>
      rw [e] at p'
      exact p'
    | ok m h1 =>
      rw [e, Res.bnd_ok, Res.bnd_ok] at p'
      obtain ⟨_, p2⟩ := grd_ok p'
      intro z1 H1 l1 R1 a o hn ho
      cases m with
      | lst xs =>
        obtain ⟨vs, rfl, r⟩ := ho
        have R2 : RH W (addMp z1 a) (h1 ++ [.lst xs]) (upd H1 a (.lst vs)) := R1.newMp hn ⟨vs, upd_same, r⟩
        refine p2 (addMp z1 a) _ (l1.trans le_mp) R2 _ (((re.mono l1).mono le_mp).set ⟨a, ?_, rfl⟩)
        show (z1.mp ++ [a])[h1.length]? = some a
        rw [← R1.len]
        simp
      | dct ks ws =>
        obtain ⟨kvs, rfl, nd, r1, r2⟩ := ho
        have R2 : RH W (addMp z1 a) (h1 ++ [.dct ks ws]) (upd H1 a (.dK kvs)) := R1.newMp hn ⟨kvs, upd_same, nd, r1, r2⟩
        refine p2 (addMp z1 a) _ (l1.trans le_mp) R2 _ (((re.mono l1).mono le_mp).set ⟨a, ?_, rfl⟩)
        show (z1.mp ++ [a])[h1.length]? = some a
        rw [← R1.len]
        simp
      | ins _ _ _ => exact ho.elim
  | false =>
    have p' : Post W z E (((evA C a' ρ h).bnd fun m h1 => .ok (freezeMO m) h1).bnd fun v h1 => grd (decide (i < ρ.length)) (.ok (.next (ρ.set i (some v))) h1)) (KS W Dn) := p
    refine ⟨z, ρ, h, re, rh, ?_⟩
    cases e : evA C a' ρ h with
    | stuck =>
      rw [e] at p'
      exact p'
    | exc x h1 =>
      rw [e] at p'
      exact p'
    | ok m h1 =>
      rw [e, Res.bnd_ok, Res.bnd_ok] at p'
      obtain ⟨_, p2⟩ := grd_ok p'
      intro z1 H1 l1 R1 a o hn ho
      cases m with
      | lst xs =>
        obtain ⟨vs, rfl, r⟩ := ho
        exact p2 (addFz z1 a (.lst vs)) _ (l1.trans (R1.le_fz hn)) (R1.newFz hn rfl) _ (((re.mono l1).mono (R1.le_fz hn)).set ⟨a, vs, rfl, addFz_at, RVs.mono (R1.le_fz hn) _ _ r⟩)
      | dct ks ws =>
        obtain ⟨kvs, rfl, nd, r1, r2⟩ := ho
        exact p2 (addFz z1 a (.dK kvs)) _ (l1.trans (R1.le_fz hn)) (R1.newFz hn rfl) _ (((re.mono l1).mono (R1.le_fz hn)).set ⟨a, kvs, rfl, addFz_at, nd, RVs.mono (R1.le_fz hn) _ _ r1, RVs.mono (R1.le_fz hn) _ _ r2⟩)
      | ins _ _ _ => exact ho.elim
theorem zsAsgT {tg e : Expr} {t : T} {e' : Z.E} (he : PE X e (tE W E (evE C e'))) (hg : PG X tg (tG W t)) (hs : swapsWithSole [tg] e pos.line X.env = pure false) (hw : swappedStores [tg] e X.env = pure none) (hst : isStar tg = false) :
    PS X (.Assign [tg] e pos) (tS W E (evS C (.asgT t e'))) := by
  refine (ps_asg he hg hs hw (by cases tg <;> first | rfl | cases hst)).imp fun D σ H ⟨z, ρ, h, re, rh, p⟩ => ?_
  have p' : Post W z E ((evE C e' ρ h).bnd fun v h1 => ofO h1 ((setT h1 t v ρ).map .next)) (KS W D) := p
  refine ⟨z, ρ, h, re, rh, p'.bnd.imp fun z1 v h1 H1 l1 R1 p1 v1 r1 => ?_⟩
  obtain ⟨ρ', e1, p2⟩ := ofO_map p1
  exact ⟨z1, v, ρ, h1, ρ', re.mono l1, R1, r1, e1, fun σ' re' _ => Post.ok p2 R1 σ' re'⟩
/-- a, b = x, y: stored at once -/
theorem zsPar {i j : Nat} {x y : Str} {a b : Expr} {a' b' : Z.E} {px py pt : Pos} {kt k2 pt2} (hc : X.calm = true) (hN : X.N.Nodup) (hi : X.N[i]? = some x) (hj : X.N[j]? = some y) (hij : i ≠ j)
    (hx : X.env.scope.names.lookup x = some .local) (hy : X.env.scope.names.lookup y = some .local) (ha : Zx X W E C a a') (hb : Zx X W E C b b')
    (hw : swappedStores [.Tuple [.Name x px, .Name y py] kt pt] (.Tuple [a, b] k2 pt2) X.env = pure (some [x, y])) :
    PS X (.Assign [.Tuple [.Name x px, .Name y py] kt pt] (.Tuple [a, b] k2 pt2) pos) (tS W E (evS C (.asgT (.tup [.name i, .name j]) (.tup [a', b'])))) := by
  refine (ps_par hc hN hi hj hij hx hy (zArgs (.cons ha (.cons hb .nil))) hw).imp fun D σ H ⟨z, ρ, h, re, rh, p⟩ => ?_
  have p' : Post W z E (((evEs C [a', b'] ρ h).bnd fun vs h1 => .ok (.tup vs) h1).bnd fun v h1 => ofO h1 ((setT h1 (.tup [.name i, .name j]) v ρ).map .next)) (KS W D) := p
  refine ⟨z, ρ, h, re, rh, ?_⟩
  have key : Post W z E (evEs C [a', b'] ρ h) fun z1 vs h1 H1 => vs.length = 2 ∧ Post W z1 E (ofO h1 ((setT h1 (.tup [.name i, .name j]) (.tup vs) ρ).map .next)) (KS W D) := by
    refine post_len (es := [a', b']) ?_
    cases e : evEs C [a', b'] ρ h with
    | stuck =>
      rw [e] at p'
      exact p'
    | exc x h1 =>
      rw [e] at p'
      exact p'
    | ok vs h1 =>
      rw [e, Res.bnd_ok, Res.bnd_ok] at p'
      exact fun z' H' l R => Post.mono l p'
  refine key.imp fun z1 vs h1 H1 l1 R1 ⟨ln, p1⟩ us r => ?_
  match vs, ln, r, p1 with
  | [v, w], _, r, p1 =>
    obtain ⟨v', w', rfl, rv, rw'⟩ := rvs2 r rfl
    obtain ⟨ρ', e1, p2⟩ := ofO_map p1
    have e2 : ((ocond (decide (i < ρ.length)) (ρ.set i (some v))).bind fun ρ1 => (ocond (decide (j < ρ1.length)) (ρ1.set j (some w))).bind fun ρ2 => some ρ2) = some ρ' := e1
    obtain ⟨ρ1, e3, e4⟩ := Option.bind_eq_some_iff.mp e2
    obtain ⟨ρ2, e5, e6⟩ := Option.bind_eq_some_iff.mp e4
    obtain ⟨_, rfl⟩ := ocond_some e3
    obtain ⟨_, rfl⟩ := ocond_some e5
    cases e6
    exact ⟨v', w', rfl, Post.ok p2 R1 _ (((re.mono l1).set rv).set rw')⟩
theorem zsPar3 {i j l : Nat} {x y u : Str} {a b c : Expr} {a' b' c' : Z.E} {px py pu pt : Pos} {kt k2 pt2} (hc : X.calm = true) (hN : X.N.Nodup) (hi : X.N[i]? = some x) (hj : X.N[j]? = some y) (hl : X.N[l]? = some u) (hij : i ≠ j) (hil : i ≠ l) (hjl : j ≠ l)
    (hx : X.env.scope.names.lookup x = some .local) (hy : X.env.scope.names.lookup y = some .local) (hu : X.env.scope.names.lookup u = some .local) (ha : Zx X W E C a a') (hb : Zx X W E C b b') (hcc : Zx X W E C c c')
    (hw : swappedStores [.Tuple [.Name x px, .Name y py, .Name u pu] kt pt] (.Tuple [a, b, c] k2 pt2) X.env = pure (some [x, y, u])) :
    PS X (.Assign [.Tuple [.Name x px, .Name y py, .Name u pu] kt pt] (.Tuple [a, b, c] k2 pt2) pos) (tS W E (evS C (.asgT (.tup [.name i, .name j, .name l]) (.tup [a', b', c'])))) := by
  refine (ps_par3 hc hN hi hj hl hij hil hjl hx hy hu (zArgs (.cons ha (.cons hb (.cons hcc .nil)))) hw).imp fun D σ H ⟨z, ρ, h, re, rh, p⟩ => ?_
  have p' : Post W z E (((evEs C [a', b', c'] ρ h).bnd fun vs h1 => .ok (.tup vs) h1).bnd fun v h1 => ofO h1 ((setT h1 (.tup [.name i, .name j, .name l]) v ρ).map .next)) (KS W D) := p
  refine ⟨z, ρ, h, re, rh, ?_⟩
  have key : Post W z E (evEs C [a', b', c'] ρ h) fun z1 vs h1 H1 => vs.length = 3 ∧ Post W z1 E (ofO h1 ((setT h1 (.tup [.name i, .name j, .name l]) (.tup vs) ρ).map .next)) (KS W D) := by
    refine post_len (es := [a', b', c']) ?_
    cases e : evEs C [a', b', c'] ρ h with
    | stuck =>
      rw [e] at p'
      exact p'
    | exc x h1 =>
      rw [e] at p'
      exact p'
    | ok vs h1 =>
      rw [e, Res.bnd_ok, Res.bnd_ok] at p'
      exact fun z' H' l R => Post.mono l p'
  refine key.imp fun z1 vs h1 H1 l1 R1 ⟨ln, p1⟩ us r => ?_
  match vs, ln, r, p1 with
  | [v, w, t], _, r, p1 =>
    obtain ⟨v', r', rfl, rv, rr⟩ := r
    obtain ⟨w', t', rfl, rw', rt⟩ := rvs2 rr rfl
    obtain ⟨ρ', e1, p2⟩ := ofO_map p1
    have e2 : ((ocond (decide (i < ρ.length)) (ρ.set i (some v))).bind fun ρ1 => (ocond (decide (j < ρ1.length)) (ρ1.set j (some w))).bind fun ρ2 => (ocond (decide (l < ρ2.length)) (ρ2.set l (some t))).bind fun ρ3 => some ρ3) = some ρ' := e1
    obtain ⟨ρ1, e3, e4⟩ := Option.bind_eq_some_iff.mp e2
    obtain ⟨ρ2, e5, e6⟩ := Option.bind_eq_some_iff.mp e4
    obtain ⟨ρ3, e7, e8⟩ := Option.bind_eq_some_iff.mp e6
    obtain ⟨_, rfl⟩ := ocond_some e3
    obtain ⟨_, rfl⟩ := ocond_some e5
    obtain ⟨_, rfl⟩ := ocond_some e7
    cases e8
    exact ⟨v', w', t', rfl, Post.ok p2 R1 _ ((((re.mono l1).set rv).set rw').set rt)⟩
theorem zsAugAdd {i : Nat} {x : Str} {e : Expr} {e' : Z.E} {pos' : Pos} (hN : X.N.Nodup) (hi : X.N[i]? = some x) (hx : Loc X.env.scope x) (hf : X.fn x = true ∨ X.env.scope.names.lookup x = some .local) (he : PE X e (tE W E (evE C e'))) :
    PS X (.AugAssign (.Name x pos') .Add e pos) (tS W E (evS C (.aug i .add e'))) := by
  refine (ps_aug hN hi hx he ip_add hf).imp fun D σ H ⟨z, ρ, h, re, rh, p⟩ => ?_
  have p' : Post W z E (match ρ[i]? with
    | some (some x) => (evE C e' ρ h).bnd fun y h1 => match x, y with
      | .int _, .int _ => ofO h1 ((binV h1 .add x y).map fun z => .next (ρ.set i (some z)))
      | _, _ => .stuck
    | _ => .stuck) (KS W D) := p
  cases e1 : ρ[i]? with
  | none =>
    rw [e1] at p'
    exact p'.elim
  | some o =>
    cases o with
    | none =>
      rw [e1] at p'
      exact p'.elim
    | some v =>
      rw [e1] at p'
      obtain ⟨v', e2, rv⟩ := re.at_ i v e1
      refine ⟨v', e2, z, ρ, h, re, rh, p'.bnd.imp fun z1 y h1 H1 l1 R1 p1 y' ry => ?_⟩
      cases v with
      | int a =>
        cases y with
        | int b =>
          have p2 : Post W z1 E (.ok (.next (ρ.set i (some (.int (a + b))))) h1) (KS W D) := p1
          exact ⟨a, b, rv, ry, Post.ok p2 R1 _ ((re.mono l1).set rfl)⟩
        | _ => exact p1.elim
      | _ => exact p1.elim
end
end Z
-- Z17
set_option Elab.async false
set_option linter.all false
set_option maxRecDepth 100000
set_option maxHeartbeats 1000000
/-! Layer Z, part 17: loops, stores at an index, raise. -/
namespace Z
open PySem PySem.Spec PyProof.Rows L2
section
variable {X : Cx} {W : Sta} {E : XK} {C : Ctx} {σ : L2.St} {H : Hp} {pos : Pos}
theorem zsFor {tg iter : Expr} {t : T} {it : Z.I} {b : List Stmt} {b' : List Z.S} (hp : PassesOwn (model X.prog X.w) X.A X.env X.xe) (hc : X.calm = true) (hi : PI X tg iter (tI W E (evI C it))) (hg : PG X tg (tG W t)) (hb : PSs X b (tS W E (evSs C b')))
    (hs : ∀ x, foldedSetIterable iter X.env x = pure x) : PS X (.For tg iter b [] pos) (tS W E (evS C (.for t it b'))) := by
  refine (ps_for hp hc hi hg hb hs).imp fun D σ H ⟨z, ρ, h, re, rh, p⟩ => ?_
  have p' : Post W z E ((evI C it ρ h).bnd fun p h1 => forL p.2 (fun x ρ h2 => match setT h2 t x ρ with
      | some ρ' => evSs C b' ρ' h2
      | none => .stuck) p.1 ρ h1) (KS W D) := p
  refine ⟨z, ρ, h, re, rh, p'.bnd.imp fun z1 xg h1 H1 l1 R1 p1 J ok => ?_⟩
  obtain ⟨xs, g⟩ := xg
  refine ⟨fun i m σ H => ∃ z2 ρ2 h2, z1.Le z2 ∧ RE W z2 ρ2 σ ∧ RH W z2 h2 H ∧ i ≤ xs.length ∧ m = xs.length - i ∧ Post W z2 E (forL g (fun x ρ h2 => match setT h2 t x ρ with
      | some ρ' => evSs C b' ρ' h2
      | none => .stuck) (xs.drop i) ρ2 h2) (KS W D), ⟨xs.length, z1, ρ, h1, .refl _, re.mono l1, R1, Nat.zero_le _, rfl, p1⟩, ?_⟩
  rintro i m σ2 H2 ⟨z2, ρ2, h2, l2, re2, R2, hi, hm, p2⟩
  by_cases hil : i < xs.length
  · right
    have ed : xs.drop i = xs[i] :: xs.drop (i + 1) := (List.getElem_cons_drop hil).symm
    rw [ed] at p2
    obtain ⟨gk, p3⟩ := grd_ok p2
    refine ⟨ok.go z2 h2 H2 i l2.le0 R2 gk hil, _, fun _ _ k => k, fun x H' y => ?_⟩
    obtain ⟨z3, l3, R3, rx⟩ := ok.yld z2 h2 H2 i xs[i] x H' l2.le0 R2 gk (List.getElem?_eq_getElem hil) y
    simp only [] at p3
    cases es : setT h2 t xs[i] ρ2 with
    | none =>
      rw [es] at p3
      exact p3.elim
    | some ρ' =>
      rw [es] at p3
      refine ⟨z3, xs[i], ρ2, h2, ρ', re2.mono l3, R3, rx, es, fun σ' re' _ => ⟨z3, ρ', h2, re', R3, (Post.mono l3 p3).bnd.imp fun z4 o h4 H4 l4 R4 p4 => ?_⟩⟩
      cases o with
      | next ρ4 => exact fun σ4 re4 => ⟨xs.length - (i + 1), by omega, z4, ρ4, h4, (l2.trans l3).trans l4, re4, R4, hil, rfl, p4⟩
      | ret v => exact fun v' r => (Post.ok (E := E) (K := KS W D) p4 R4) v' r
  · left
    have hx : xs.length ≤ i := by omega
    rw [List.drop_eq_nil_of_le hx] at p2
    obtain ⟨gk, p3⟩ := grd_ok p2
    exact ⟨ok.stop z2 h2 H2 i l2.le0 R2 gk hx, Post.ok (E := E) (K := KS W D) p3 R2 σ2 re2⟩
theorem zsWhl {c : Expr} {c' : Z.E} {b : List Stmt} {b' : List Z.S} (hp : PassesOwn (model X.prog X.w) X.A X.env X.xe) (hc : PT X c (tT W E (tstR (evE C c')))) (hb : PSs X b (tS W E (evSs C b'))) : PS X (.While c b [] pos) (tS W E (evS C (.whl c' b'))) := by
  refine (ps_while hp hc hb).imp fun D σ H ⟨z, ρ, h, re, rh, p⟩ => ?_
  have p' : Post W z E (whlL (fun ρ h => (evE C c' ρ h).bnd fun v h1 => ofO h1 (tru h1 v)) (evSs C b') C.wf ρ h) (KS W D) := p
  refine ⟨fun m σ H => ∃ z ρ h, RE W z ρ σ ∧ RH W z h H ∧ Post W z E (whlL (fun ρ h => (evE C c' ρ h).bnd fun v h1 => ofO h1 (tru h1 v)) (evSs C b') m ρ h) (KS W D), ⟨C.wf, z, ρ, h, re, rh, p'⟩, ?_⟩
  rintro m σ1 H1 ⟨z1, ρ1, h1, re1, R1, p1⟩
  cases m with
  | zero => exact p1.elim
  | succ m =>
    have p2 : Post W z1 E ((tstR (evE C c') ρ1 h1).bnd fun k h2 => match k with
      | true => (evSs C b' ρ1 h2).bnd fun o h3 => match o with
        | .next ρ' => whlL (fun ρ h => (evE C c' ρ h).bnd fun v h1 => ofO h1 (tru h1 v)) (evSs C b') m ρ' h3
        | .ret v => .ok (.ret v) h3
      | false => .ok (.next ρ1) h2) (KS W D) := p1
    refine ⟨z1, ρ1, h1, re1, R1, p2.bnd.imp fun z2 k h2 H2 l2 R2 p3 => ?_⟩
    cases k with
    | true =>
      refine ⟨_, fun _ _ q => q, z2, ρ1, h2, re1.mono l2, R2, p3.bnd.imp fun z3 o h3 H3 l3 R3 p4 => ?_⟩
      cases o with
      | next ρ3 => exact fun σ3 re3 => ⟨m, Nat.lt_succ_self m, z3, ρ3, h3, re3, R3, p4⟩
      | ret v => exact fun v' r => (Post.ok (E := E) (K := KS W D) p4 R3) v' r
    | false => exact Post.ok (E := E) (K := KS W D) p3 R2 σ1 (re1.mono l2)
/-! ### xs[i] = v -/
def rSet (W : Sta) (E : XK) (ρ : Env) (σ : L2.St) (D : Ends) : TSet := fun o i v H Q => ∃ z a b c h, RV W z a o ∧ RV W z b i ∧ RV W z c v ∧ RH W z h H ∧ RE W z ρ σ ∧
  Post W z E (match a with
    | .ref n => match h[n]?, b with
      | some (.lst xs), .int j => match ixOf xs.length j with
        | some m => .ok (.next ρ) (h.set n (.lst (xs.set m c)))
        | none => .stuck
      | some (.dct ks ws), _ => grd (keyOk b && decide (ks.length < 1000000)) (.ok (.next ρ) (h.set n (.dct (putK b c ks ws).1 (putK b c ks ws).2)))
      | _, _ => .stuck
    | _ => .stuck) (KS W D) ∧ ∀ H', D.nx σ H' → Q H'
theorem setList (hu : X.A.units + 64 < cLine) (ρ : Env) (σ0 : L2.St) (D : Ends) : PSet X (rSet W E ρ σ0 D) := by
  intro pins s σ H o i v ov iv u Q I ro ri rv ⟨z, a, b, c, h, ra, rb, rc, R, re, p, k⟩
  cases a with
  | ref n =>
    simp only at p
    cases e : h[n]? with
    | none =>
      rw [e] at p
      exact p.elim
    | some m =>
      rw [e] at p
      obtain ⟨pa, hp, rfl, rm⟩ := refMO R ra e
      cases m with
      | lst xs =>
        cases b with
        | int j =>
          simp only at p
          cases ei : ixOf xs.length j with
          | none =>
            rw [ei] at p
            exact p.elim
          | some m =>
            rw [ei] at p
            obtain ⟨vs, q1, q2⟩ := rm
            have rb' : i = .int j := rb
            refine set_list pins s σ H _ i v ov iv u Q I ro ri rv ⟨pa, vs, j, m, rfl, rb', q1, ?_, k _ (Post.ok (E := E) (K := KS W D) p (R.setMp hp ⟨_, upd_same, q2.set rc m⟩) σ0 re)⟩
            rw [← q2.length]
            exact ei
        | _ => exact p.elim
      | dct ks ws =>
        obtain ⟨kvs, q1, nd, q2, q3⟩ := rm
        have p2 : Post W z E (grd (keyOk b && decide (ks.length < 1000000)) (.ok (.next ρ) (h.set n (.dct (Z.putK b c ks ws).1 (Z.putK b c ks ws).2)))) (KS W D) := by
          cases b <;> exact p
        obtain ⟨g, p3⟩ := grd_ok p2
        simp only [Bool.and_eq_true, decide_eq_true_eq] at g
        obtain ⟨kk, rfl, hk⟩ := keyV rb g.1
        obtain ⟨d1, d2, d3⟩ := putK_ok hk rb rc nd q2 q3
        refine set_dict (by omega) pins s σ H _ _ v ov iv u Q I ro ri rv ⟨pa, _, rfl, DPut.k q1 ?_, k _ (Post.ok (E := E) (K := KS W D) p3 (R.setMp hp ⟨_, upd_same, d1, d2, d3⟩) σ0 re)⟩
        have := q2.length
        rw [List.length_map] at this
        rw [← this, sizeLine_eq]
        omega
      | ins _ _ _ => exact p.elim
  | _ => exact p.elim
theorem zsIx (hu : X.A.units + 64 < cLine) {o i e : Expr} {o' i' e' : Z.E} {tp : Pos} (ho : PE X o (tE W E (evE C o'))) (hi : PE X i (tE W E (evE C i'))) (he : PE X e (tE W E (evE C e')))
    (ha : ∀ v, assign (.Subscript o i tp) X.env v = (do
      let ov ← holding [v] (eval o X.env)
      let iv ← holding [v, ov] (eval i X.env)
      standAt tp
      holding [v, ov, iv] (setItem ov iv v)
      release [v, ov, iv] []))
    (hs : swapsWithSole [.Subscript o i tp] e pos.line X.env = pure false) (hw : swappedStores [.Subscript o i tp] e X.env = pure none) : PS X (.Assign [.Subscript o i tp] e pos) (tS W E (evS C (.asgI o' i' e'))) := by
  refine ⟨fun pins s σ0 H0 D I0 ⟨z, ρ, h, re, rh, p⟩ => ?_⟩
  refine (ps_asg he (pg_sub ho hi (setList (W := W) (E := E) hu ρ σ0 D) ha) hs hw).run pins s σ0 H0 D I0 ?_
  have p' : Post W z E ((evE C e' ρ h).bnd fun v h1 => (evE C o' ρ h1).bnd fun x h2 => (evE C i' ρ h2).bnd fun y h3 => match x with
    | .ref n => match h3[n]?, y with
      | some (.lst xs), .int j => match ixOf xs.length j with
        | some m => .ok (.next ρ) (h3.set n (.lst (xs.set m v)))
        | none => .stuck
      | some (.dct ks ws), _ => grd (keyOk y && decide (ks.length < 1000000)) (.ok (.next ρ) (h3.set n (.dct (putK y v ks ws).1 (putK y v ks ws).2)))
      | _, _ => .stuck
    | _ => .stuck) (KS W D) := p
  refine ⟨z, ρ, h, re, rh, p'.bnd.imp fun z1 v h1 H1 l1 R1 p1 v1 r1 => ?_⟩
  refine ⟨z1, ρ, h1, re.mono l1, R1, p1.bnd.imp fun z2 x h2 H2 l2 R2 p2 v2 r2 => ?_⟩
  refine ⟨z2, ρ, h2, (re.mono l1).mono l2, R2, p2.bnd.imp fun z3 y h3 H3 l3 R3 p3 v3 r3 => ?_⟩
  exact ⟨z3, x, y, v, h3, RV.mono l3 _ _ r2, r3, RV.mono l3 _ _ (RV.mono l2 _ _ r1), R3, ((re.mono l1).mono l2).mono l3, p3, fun _ k => k⟩
/-! ### raise -/
theorem zsRaise {e : Expr} {c : Nat} (hc : X.calm = true) (tk : L2N.Takes X (fun cl d _ H => E cl d H)) (hm : L2N.PMk X e (fun _ H Q => Q (.ref (W.xa c)) none H)) : PS X (.Raise (some e) none pos) (tS W E (evS C (.raise c))) := by
  refine (L2N.ps_raise hc tk hm).imp fun D σ H ⟨z, ρ, h, re, rh, p⟩ => ?_
  have p' : Post W z E (.exc ⟨c, none⟩ h) (KS W D) := p
  exact p' z _ none H (.refl _) ⟨rfl, rfl⟩ rh
end
end Z
-- ZH0
set_option Elab.async false
set_option linter.all false
set_option maxRecDepth 100000
set_option maxHeartbeats 2000000
/-! Layer ZH, part 0: iterators' ends while an exception is handled. -/
namespace ZH
open PySem PySem.Spec PyProof.Rows HotX
section
variable {prog : Program} {w : World} {A : Around} {E : Value → Shared → Prop} {s : Shared}
/-- the StopIteration is made and raised -/
theorem stop_hot {α : Type} {x1 : Addr} {Q : α → Shared → Prop} (hot : HotAt A x1 s.heap)
    (hE : ∀ h' e, (∀ b o, s.heap.get? b = some o → h'.get? b = some o) → (∃ o, h'.get? e = some o ∧ o.cls = .type "StopIteration") → E (.ref e) { s with heap := h' }) :
    wpAny (model prog w) A (newExc (.type "StopIteration") [] >>= fun e => raiseNew e) Q E s := by
  obtain ⟨hh, o1, vs1, h1, d1, c1⟩ := hot
  refine wpAny_bind ?_
  simp only [newExc, newTuple]
  refine wpAny_bind (wpAny_newObj_type ?_ (by size_fits))
  refine wpAny_bind (m := firstArgMember _ _) (wpAny_of_eq (a := Value.none) (by first | rfl | (simp only [firstArgMember]; rfl)) ?_)
  refine wpAny_newObj_type ?_ (by size_fits)
  refine raiseNew_hot ⟨hh, o1, vs1, Heap.get?_push_of_some _ (Heap.get?_push_of_some _ h1), d1, c1⟩ (Nat.ne_of_lt (Heap.lt_size (Heap.get?_push_of_some _ h1))) (Heap.get?_push_size _ rfl) rfl (by first | (simp; done) | (simp; omega) | (simp only [Array.size_append]; simp; omega)) ?_
  refine hE _ _ (fun b o e => ?_) ⟨_, Heap.get?_update_self _ (Heap.get?_push_size _ rfl) rfl, rfl⟩
  rw [Heap.get?_update_other _ _ (Nat.ne_of_gt (Heap.lt_size (Heap.get?_push_of_some _ e)))]
  exact Heap.get?_push_of_some _ (Heap.get?_push_of_some _ e)
theorem hot_keep {x1 : Addr} {h h' : Heap} (hot : HotAt A x1 h) (k : ∀ o, h.get? x1 = some o → h'.get? x1 = some o) : HotAt A x1 h' := by
  obtain ⟨hh, o1, vs1, h1, d1, c1⟩ := hot
  exact ⟨hh, o1, vs1, k _ h1, d1, c1⟩
theorem hot_in1 {x1 : Addr} {h : Heap} (hot : HotAt A x1 h) : HotAt A.in1 x1 h := hot
theorem pyNext_list_end_hot {it l x1 : Addr} {i : Nat} {items} {Q : Option Value → Shared → Prop} (hot : HotAt A x1 s.heap) (hne : x1 ≠ it)
    (hit : s.heap.IsListIter it l i) (hl : s.heap.IsList l items) (hx : items[i]? = none)
    (hQ : ∀ h', Heap.ExtBut it s.heap h' → Q none { s with heap := h' }) : wpAny (model prog w) A (pyNext (.ref it)) Q E s := by
  obtain ⟨o, ho, hc, hd⟩ := id hit
  obtain ⟨ol, hol, _, nl, hdl⟩ := hl
  unfold pyNext
  refine wpAny_bind (wpAny_attempt (wpAny_callSpecial?_slot (name := Str.ofString "__next__") hit.typeIs slot_listiter_next
    (wpAny_call_entry slot_listiter_next hit.typeIs entry_listiter_next ?_ (args_listiter_next _))))
  show wpAny _ _ (field (.ref it) 0 >>= _) _ _ s
  refine wpAny_bind (wpAny_field ho hd (x := .ref l) rfl ?_)
  show wpAny _ _ (if (Value.ref l == Value.none) = true then _ else _) _ _ s
  rw [if_neg (show ¬ ((Value.ref l == Value.none) = true) from Bool.false_ne_true)]
  show wpAny _ _ (field (.ref it) 1 >>= _) _ _ s
  refine wpAny_bind (wpAny_field ho hd (x := .int i 0) rfl ?_)
  show wpAny _ _ (seqItems? (.ref l) >>= _) _ _ s
  refine wpAny_bind (wpAny_seqItems hol hdl ?_)
  simp only [Int.toNat_natCast, hx]
  refine wpAny_bind (wpAny_rule (wpAny_bind (wpAny_setField ho hd (by simp) ?_)))
  refine stop_hot (hot_keep (hot_in1 hot) fun o' e => by rw [Heap.get?_update_other _ _ (Ne.symm hne)]; exact e) fun h' e k ⟨oe, he, hce⟩ => ?_
  refine wpAny_bind (wpAny_isInstance (T := "StopIteration") (b := true) ⟨oe, he, hce⟩ isSubtype_stop ?_)
  exact wpAny_pure (hQ _ fun b o' hb e => k b o' (by rw [Heap.get?_update_other _ _ (Ne.symm hb)]; exact e))
theorem pyNext_tuple_end_hot {it t x1 : Addr} {i : Nat} {items} {Q : Option Value → Shared → Prop} (hot : HotAt A x1 s.heap) (hne : x1 ≠ it)
    (hit : s.heap.IsTupleIter it t i) (ht : s.heap.IsTuple t items) (hx : items[i]? = none)
    (hQ : ∀ h', Heap.ExtBut it s.heap h' → Q none { s with heap := h' }) : wpAny (model prog w) A (pyNext (.ref it)) Q E s := by
  obtain ⟨o, ho, hc, hd⟩ := id hit
  obtain ⟨ol, hol, _, nl, hdl⟩ := ht
  unfold pyNext
  refine wpAny_bind (wpAny_attempt (wpAny_callSpecial?_slot (name := Str.ofString "__next__") hit.typeIs F.slot_tuple_iterator_next
    (wpAny_call_entry F.slot_tuple_iterator_next hit.typeIs F.entry_tuple_iterator_next ?_ (F.args_tuple_iterator_next_1 _))))
  show wpAny _ _ (field (.ref it) 0 >>= _) _ _ s
  refine wpAny_bind (wpAny_field ho hd (x := .ref t) rfl ?_)
  show wpAny _ _ (if (Value.ref t == Value.none) = true then _ else _) _ _ s
  rw [if_neg (show ¬ ((Value.ref t == Value.none) = true) from Bool.false_ne_true)]
  show wpAny _ _ (field (.ref it) 1 >>= _) _ _ s
  refine wpAny_bind (wpAny_field ho hd (x := .int i 0) rfl ?_)
  show wpAny _ _ (seqItems? (.ref t) >>= _) _ _ s
  refine wpAny_bind (wpAny_seqItems hol hdl ?_)
  simp only [Int.toNat_natCast, hx]
  refine wpAny_bind (wpAny_rule (wpAny_bind (wpAny_setField ho hd (by simp) ?_)))
  refine stop_hot (hot_keep (hot_in1 hot) fun o' e => by rw [Heap.get?_update_other _ _ (Ne.symm hne)]; exact e) fun h' e k ⟨oe, he, hce⟩ => ?_
  refine wpAny_bind (wpAny_isInstance (T := "StopIteration") (b := true) ⟨oe, he, hce⟩ isSubtype_stop ?_)
  exact wpAny_pure (hQ _ fun b o' hb e => k b o' (by rw [Heap.get?_update_other _ _ (Ne.symm hb)]; exact e))
theorem nextOf_list_end_hot {it l x1 : Addr} {i : Nat} {items} {Q : Value → Shared → Prop} (hot : HotAt A x1 s.heap) (hne : x1 ≠ it)
    (hit : s.heap.IsListIter it l i) (hl : s.heap.IsList l items) (hx : items[i]? = none)
    (hE : ∀ h' e, Heap.ExtBut it s.heap h' → (∃ o, h'.get? e = some o ∧ o.cls = .type "StopIteration") → E (.ref e) { s with heap := h' }) :
    wpAny (model prog w) A (Builtin.SmallTypes.nextOf (.ref it)) Q E s := by
  obtain ⟨o, ho, hc, hd⟩ := id hit
  obtain ⟨ol, hol, _, nl, hdl⟩ := hl
  unfold Builtin.SmallTypes.nextOf
  refine wpAny_bind (wpAny_callSpecial?_slot (name := Str.ofString "__next__") hit.typeIs slot_listiter_next
    (wpAny_call_entry slot_listiter_next hit.typeIs entry_listiter_next ?_ (args_listiter_next _)))
  show wpAny _ _ (field (.ref it) 0 >>= _) _ _ s
  refine wpAny_bind (wpAny_field ho hd (x := .ref l) rfl ?_)
  show wpAny _ _ (if (Value.ref l == Value.none) = true then _ else _) _ _ s
  rw [if_neg (show ¬ ((Value.ref l == Value.none) = true) from Bool.false_ne_true)]
  show wpAny _ _ (field (.ref it) 1 >>= _) _ _ s
  refine wpAny_bind (wpAny_field ho hd (x := .int i 0) rfl ?_)
  show wpAny _ _ (seqItems? (.ref l) >>= _) _ _ s
  refine wpAny_bind (wpAny_seqItems hol hdl ?_)
  simp only [Int.toNat_natCast, hx]
  refine wpAny_bind (wpAny_rule (wpAny_bind (wpAny_setField ho hd (by simp) ?_)))
  refine stop_hot (hot_keep (hot_in1 hot) fun o' e => by rw [Heap.get?_update_other _ _ (Ne.symm hne)]; exact e) fun h' e k ⟨oe, he, hce⟩ => ?_
  exact hE _ _ (fun b o' hb e => k b o' (by rw [Heap.get?_update_other _ _ (Ne.symm hb)]; exact e)) ⟨oe, he, hce⟩
theorem zip_next_end_hot {z TI TO i1 i2 l1 l2 x1 : Addr} {k1 k2 : Nat} {xs ys : Array Value} {a b : Value} {Q : Fin → Shared → Prop} (hot : HotAt A x1 s.heap) (nz : x1 ≠ z) (nTO : x1 ≠ TO) (n1 : x1 ≠ i1) (n2 : x1 ≠ i2) (D : ZipApart z TI TO i1 i2 l1 l2)
    (hz : IsZip s.heap z TI TO .none) (hTI : IsPair s.heap TI (.ref i1) (.ref i2)) (hTO : IsPair s.heap TO a b)
    (h1 : s.heap.IsListIter i1 l1 k1) (h2 : s.heap.IsListIter i2 l2 k2) (hl1 : s.heap.IsList l1 xs) (hl2 : s.heap.IsList l2 ys) (hend : xs[k1]? = none ∨ ys[k2]? = none)
    (hE : ∀ h' e, (∀ c o, c ≠ z → c ≠ TO → c ≠ i1 → c ≠ i2 → s.heap.get? c = some o → h'.get? c = some o) → (∃ o, h'.get? e = some o ∧ o.cls = .type "StopIteration") → E (.ref e) { s with heap := h' }) :
    wpAny (model prog w) A (Builtin.«zip.__next__» ⟨[.ref z], []⟩) Q E s := by
  show wpAny _ _ (field (.ref z) 2 >>= _) _ _ _
  refine wpAny_bind (wpAny_field hz rfl (x := .bool false) rfl ?_)
  show wpAny _ _ (field (.ref z) 3 >>= _) _ _ _
  refine wpAny_bind (wpAny_field hz rfl (x := .ref TI) rfl ?_)
  refine wpAny_bind (wpAny_seqItems hTI rfl ?_)
  show wpAny _ _ (Builtin.SmallTypes.ownedTupleIsFree (.ref z) >>= _) _ _ _
  refine wpAny_bind ?_
  unfold Builtin.SmallTypes.ownedTupleIsFree
  refine wpAny_bind (wpAny_field hz rfl (x := .none) rfl (wpAny_pure ?_))
  simp only [if_true]
  refine wpAny_bind (wpAny_rule ?_)
  refine wpAny_bind (wpAny_field hz rfl (x := .ref TO) rfl ?_)
  refine wpAny_bind (wpAny_setField_rec hz (by simp) fun h₁ hz₁ hs₁ => ?_)
  replace hz₁ : IsZip h₁ z TI TO .ellipsis := hz₁
  have hot₁ : HotAt A x1 h₁ := hot_keep hot fun o e => hs₁.extBut _ _ nz e
  refine wpAny_bind ?_
  simp only [List.zipIdx_cons, List.zipIdx_nil, List.forIn_cons, List.forIn_nil]
  refine wpAny_bind (wpAny_bind (wpAny_onRaise ?_))
  show wpAny _ _ (Builtin.SmallTypes.nextOf (.ref i1) >>= _) _ _ _
  cases hx : xs[k1]? with
  | none =>
    refine wpAny_bind (nextOf_list_end_hot hot₁ n1 (h1.extBut hs₁.extBut D.i1z) (hl1.extBut hs₁.extBut D.l1z) hx fun h₂ e hs₂ he => ?_)
    obtain ⟨oe, hoe, hce⟩ := he
    have hz₂ : IsZip h₂ z TI TO .ellipsis := hs₂ _ _ D.i1z.symm hz₁
    have hez : e ≠ z := fun x => by subst x; rw [hz₂] at hoe; cases hoe; simp at hce
    refine wpAny_setField_rec hz₂ (by simp) fun h₃ _ hs₃ => hE h₃ e (fun c o c1 _ c3 _ x => hs₃.extBut _ _ c1 (hs₂ _ _ c3 (hs₁.extBut _ _ c1 x))) ⟨oe, hs₃.extBut _ _ hez hoe, hce⟩
  | some x =>
    have hy : ys[k2]? = none := by rcases hend with h | h; rw [hx] at h; cases h; exact h
    refine wpAny_bind (wpAny_nextOf_list_item (h1.extBut hs₁.extBut D.i1z) (hl1.extBut hs₁.extBut D.l1z) hx fun h₂ h1₂ hs₂ => wpAny_pure ?_)
    have hTO₂ : IsPair h₂ TO a b := hs₂.extBut _ _ D.TOi1 (hs₁.extBut _ _ D.TOz hTO)
    refine wpAny_bind (wpAny_seqItems hTO₂ rfl ?_)
    refine wpAny_bind (wpAny_updateSeq_pair hTO₂ fun h₃ hTO₃ hs₃ => ?_)
    refine wpAny_bind (wpAny_letGo (wpAny_pure ?_))
    refine wpAny_bind (wpAny_bind (wpAny_onRaise ?_))
    show wpAny _ _ (Builtin.SmallTypes.nextOf (.ref i2) >>= _) _ _ _
    have hot₃ : HotAt A x1 h₃ := hot_keep hot₁ fun o e => hs₃.extBut _ _ nTO (hs₂.extBut _ _ n1 e)
    refine wpAny_bind (nextOf_list_end_hot hot₃ n2 (((h2.extBut hs₁.extBut D.i2z).extBut hs₂.extBut D.i12.symm).extBut hs₃.extBut D.TOi2.symm)
      (((hl2.extBut hs₁.extBut D.l2z).extBut hs₂.extBut D.l2i1).extBut hs₃.extBut D.l2TO) hy fun h₄ e hs₄ he => ?_)
    obtain ⟨oe, hoe, hce⟩ := he
    have hz₄ : IsZip h₄ z TI TO .ellipsis := hs₄ _ _ D.i2z.symm (hs₃.extBut _ _ D.TOz.symm (hs₂.extBut _ _ D.i1z.symm hz₁))
    have hez : e ≠ z := fun x => by subst x; rw [hz₄] at hoe; cases hoe; simp at hce
    refine wpAny_setField_rec hz₄ (by simp) fun h₅ _ hs₅ => hE h₅ e (fun c o c1 c2 c3 c4 x => hs₅.extBut _ _ c1 (hs₄ _ _ c4 (hs₃.extBut _ _ c2 (hs₂.extBut _ _ c3 (hs₁.extBut _ _ c1 x))))) ⟨oe, hs₅.extBut _ _ hez hoe, hce⟩
theorem pyNext_zip_end_hot {z TI TO i1 i2 l1 l2 x1 : Addr} {k1 k2 : Nat} {xs ys : Array Value} {a b : Value} {Q : Option Value → Shared → Prop} (hot : HotAt A x1 s.heap) (nz : x1 ≠ z) (nTO : x1 ≠ TO) (n1 : x1 ≠ i1) (n2 : x1 ≠ i2) (D : ZipApart z TI TO i1 i2 l1 l2)
    (hz : IsZip s.heap z TI TO .none) (hTI : IsPair s.heap TI (.ref i1) (.ref i2)) (hTO : IsPair s.heap TO a b)
    (h1 : s.heap.IsListIter i1 l1 k1) (h2 : s.heap.IsListIter i2 l2 k2) (hl1 : s.heap.IsList l1 xs) (hl2 : s.heap.IsList l2 ys) (hend : xs[k1]? = none ∨ ys[k2]? = none)
    (hQ : ∀ h', (∀ c o, c ≠ z → c ≠ TO → c ≠ i1 → c ≠ i2 → s.heap.get? c = some o → h'.get? c = some o) → Q none { s with heap := h' }) : wpAny (model prog w) A (pyNext (.ref z)) Q E s := by
  have hT : s.TypeIs (.ref z) "zip" := ⟨_, hz, rfl⟩
  unfold pyNext
  refine wpAny_bind (wpAny_attempt (wpAny_callSpecial?_slot (name := Str.ofString "__next__") hT F.slot_zip_next
    (wpAny_call_entry F.slot_zip_next hT F.entry_zip_next (zip_next_end_hot (hot_in1 hot) nz nTO n1 n2 D hz hTI hTO h1 h2 hl1 hl2 hend fun h' e hk he => ?_) (F.args_zip_next_1 _))))
  obtain ⟨o, ho, hc⟩ := he
  refine wpAny_bind (wpAny_isInstance (T := "StopIteration") (b := true) ⟨o, ho, hc⟩ isSubtype_stop ?_)
  exact wpAny_pure (hQ _ hk)
theorem unpackItems_tuple_hot {t x1 : Addr} {items : Array Value} {Q : List Value → Shared → Prop} (hot : HotAt A x1 s.heap) (ht : s.heap.IsTuple t items)
    (hQ : ∀ h', Heap.ExtBut s.heap.objs.size s.heap h' → Q items.toList { s with heap := h' }) : wpAny (model prog w) A (unpackItems (.ref t) items.size none) Q E s := by
  have hlt : t ≠ s.heap.objs.size := by obtain ⟨o, ho, _⟩ := ht; exact Nat.ne_of_lt (Heap.lt_size ho)
  have hx1 : x1 ≠ s.heap.objs.size := by
    obtain ⟨_, o1, _, h1, _⟩ := hot
    exact Nat.ne_of_lt (Heap.lt_size h1)
  unfold unpackItems
  refine wpAny_bind ?_
  · unfold notIterableAtAll
    refine wpAny_bind (wpAny_specialOf ht.typeIs F.slot_tuple_iter.lookup ?_)
    refine wpAny_pure ?_
    simp only [Bool.false_eq_true, if_false]
    refine wpAny_bind (wpAny_holding (wpAny_pyIter_tuple ht ?_))
    refine wpAny_bind (wpAny_holding (wpAny_draw_tuple hlt items.size 0 _ _ ⟨_, Heap.get?_push_size _ rfl, rfl, rfl⟩ (ht.push _) (by omega) fun h₁ hit₁ hs₁ => ?_))
    have hall : List.take items.size (List.drop 0 items.toList) = items.toList := by
      rw [List.drop_zero]; exact List.take_of_length_le (by simp)
    rw [hall]
    rw [if_neg (by simp)]
    have ht₁ : h₁.IsTuple t items := (ht.push _).extBut hs₁.extBut hlt
    have hot₁ : HotAt A x1 h₁ := hot_keep hot fun o e => hs₁.extBut _ _ hx1 (Heap.get?_push_of_some _ e)
    refine wpAny_bind (wpAny_holding (pyNext_tuple_end_hot hot₁ hx1 hit₁ ht₁ (by simp) fun h₂ he₂ => ?_))
    simp only [Option.isSome_none, Bool.false_eq_true, if_false]
    refine wpAny_pure (hQ h₂ fun b o hb e => he₂ b o hb (hs₁.extBut b o hb (Heap.get?_push_of_some _ e)))
theorem assign_Tuple_hot {env : Env} {elts : List Expr} {k : Nat} {pos : Pos} {t x1 : Addr} {items : Array Value} {Q : Unit → Shared → Prop} (hot : HotAt A x1 s.heap) (ht : s.heap.IsTuple t items)
    (hn : (assignEach elts env).length = items.size) (hstar : (assignEach elts env).findIdx? (·.1) = none)
    (h : ∀ h', Heap.ExtBut s.heap.objs.size s.heap h' → wpAny (model prog w) A (assignInOrder ((assignEach elts env).map (·.2)) items.toList) Q E { s with heap := h' }) :
    wpAny (model prog w) A (assign (.Tuple elts k pos) env (.ref t)) Q E s := by
  rw [arm_assign_Tuple]
  refine wpAny_bind (wpAny_standAt ?_)
  unfold unpack
  rw [hn, hstar]
  exact wpAny_bind (wpAny_holding (unpackItems_tuple_hot hot ht h))
end
end ZH
-- ZH1
set_option Elab.async false
set_option linter.all false
set_option maxRecDepth 100000
set_option maxHeartbeats 2000000
/-! Layer ZH, part 1: unpacking, list and zip iteration, list comprehensions while an exception is handled. -/
namespace ZH
open PySem PySem.Spec PyProof.Rows L2 L2H HotX
section
variable {X : Cx} {pins : List (Addr × Obj)} {σ : L2.St} {H : Hp} {s : Shared}
/-- the handled exception, and where it is -/
theorem hot_at (c : HotC X) (I : Inv X pins σ H s) : ∃ p ∈ X.pn, Hot1 X.A p ∧ HotAt X.A p.1 s.heap := by
  obtain ⟨p, h1, hp⟩ := c
  obtain ⟨hh, v1, e1, c1⟩ := id h1
  exact ⟨p, hp, h1, hh, p.2, v1, (I.pin p (List.mem_append_left _ hp)).1, e1, c1⟩
theorem fp_ne {p : Addr × Obj} (hp : p ∈ X.pn) {b : Addr} (f : FpOk X pins H b) : p.1 ≠ b := f.2.2.2.2.2 p (List.mem_append_left _ hp)
theorem pg_tupH {es : List Expr} {k : Nat} {t : TGs} {n : Nat} {pos : Pos} (hc : HotC X) (h : PGs X es t)
    (hn : (assignEach es X.env).length = n) (hst : (assignEach es X.env).findIdx? (·.1) = none) : PG X (.Tuple es k pos) (gTup X.K n t) := by
  refine ⟨fun pins s σ H v u Q I r hw => ?_⟩
  obtain ⟨a, xs, e1, hq, hl, hw⟩ := hw
  subst e1
  cases r
  obtain ⟨p, hp, _, hot⟩ := hot_at hc I
  obtain ⟨its, rv, ht, hz⟩ := I.tuple hq
  refine assign_Tuple_hot hot ht (by simp [hn, ← hl, rv.length]) hst fun h' hx => ?_
  have I1 : Inv X pins σ H { s with heap := h' } := I.kept (t' := s.toks) fun b o e => hx b o (Nat.ne_of_lt (Heap.lt_size e)) e
  exact h.run pins _ σ H xs _ Q I1 (by simpa using rv) hw
end
/-! ### what is walked -/
theorem turn_listH {P : Program} {w : World} {K : PySem.W.Frag} {tg : Expr} (a it : Addr) : TurnH P w K tg (Itl K a) [it] it (fun i h => h.IsListIter it a i) where
  mem := by simp
  obj := fun i h st b hb => by
    have e : b = it := by simpa using hb
    subst e
    obtain ⟨o, e, c, d⟩ := st
    exact ⟨o, e, fun v z => by rw [d] at z; cases z⟩
  keep := fun i h h' st k => st.at fun o e => k it (by simp) o e
  item := by
    intro X hP hw hK hc i pins s σ H E I hf st hg
    subst hP hw hK
    obtain ⟨xs, x, hq, hx⟩ := hg
    obtain ⟨its, rv, p, hz⟩ := I.list hq
    obtain ⟨u, hu, ru⟩ := rv.get hx
    obtain ⟨f0, f1, f2, f3, f4, f5⟩ := hf it (by simp)
    refine wpAny_pyNext_list_item st p.isList (x := u) (by simpa using hu) fun h' st' sb => ?_
    have I1 : Inv X pins σ H { s with heap := h' } := I.turned (t' := s.toks) (fun b o hb e => (sb.2 b hb).trans e) f0 f1 f3 f4 f5
    obtain ⟨o, e, c, d⟩ := id st'
    exact ⟨u, rfl, go_of (s := { s with heap := h' }) e c d (by decide) ⟨x, H, I1, ru, ⟨rfl, fun ys hy => by rw [I.list_inj hy hq]; exact hx⟩, st', fun b hb => (hf b hb).1⟩⟩
  done := by
    intro X hP hw hK hc i pins s σ H E I hf st hg
    subst hP hw hK
    obtain ⟨xs, hq, hx⟩ := hg
    obtain ⟨its, rv, p, hz⟩ := I.list hq
    obtain ⟨q, hqm, _, hot⟩ := hot_at hc I
    have ne := fp_ne hqm (hf it (by simp))
    obtain ⟨f0, f1, f2, f3, f4, f5⟩ := hf it (by simp)
    have hl := rv.length
    exact pyNext_list_end_hot hot ne st p.isList (by simp; omega) fun h' eb => ⟨rfl, I.turned (t' := s.toks) (fun b o hb e => eb b o hb e) f0 f1 f3 f4 f5⟩
  self := fun _ _ _ _ _ st h => wpAny_pyIter_listiter st h
theorem turn_zipH {P : Program} {w : World} {K : PySem.W.Frag} {elts : List Expr} {kk : Nat} {tpos : Pos} {a b z TI TO i1 i2 : Addr} (D : ZipApart z TI TO i1 i2 a b) :
    TurnH P w K (.Tuple elts kk tpos) (Itz K a b) [z, TI, TO, i1, i2] z (fun i h => IsZip h z TI TO .none ∧ IsPair h TI (.ref i1) (.ref i2) ∧ (∃ x y, IsPair h TO x y) ∧ h.IsListIter i1 a i ∧ h.IsListIter i2 b i) where
  mem := by simp
  obj := (turn_zip (P := P) (w := w) (K := K) (elts := elts) (kk := kk) (tpos := tpos) D).obj
  keep := (turn_zip (P := P) (w := w) (K := K) (elts := elts) (kk := kk) (tpos := tpos) D).keep
  item := by
    intro X hP hw hK hc i pins s σ H E I hf st hg
    subst hP hw hK
    obtain ⟨hz, hTI, ⟨x0, y0, hTO⟩, h1, h2⟩ := st
    obtain ⟨xs, ys, x, y, hqx, hqy, hx, hy⟩ := hg
    obtain ⟨its, rv, p, _⟩ := I.list hqx
    obtain ⟨its2, rv2, p2, _⟩ := I.list hqy
    obtain ⟨u, hu, ru⟩ := rv.get hx
    obtain ⟨u2, hu2, ru2⟩ := rv2.get hy
    have hzl : z < s.heap.objs.size := Heap.lt_size hz
    refine wpAny_pyNext_zip_item D hz hTI hTO h1 h2 p.isList p2.isList (x := u) (y := u2) (by simpa using hu) (by simpa using hu2) fun h' z' TO' h1' h2' hT hsz hk => ?_
    refine ⟨_, rfl, wpAny_letOwnedTupleGo_zip (s := { s with heap := h' }) z' fun h'' z'' sb => ?_⟩
    have hT2 : h''.get? s.heap.objs.size = some { cls := .type "tuple", data := .seq #[u, u2] } := (sb.2 _ (Nat.ne_of_gt hzl)).trans hT
    have new : ObjOk X.prog X.w (upd H s.heap.objs.size (.tup [x, y])) h'' s.heap.objs.size (.tup [x, y]) :=
      ⟨by show 2 ≤ sizeLine; decide, [u, u2], .cons ru (.cons ru2 .nil), ⟨_, hT2, rfl, _, rfl⟩⟩
    have I1 : Inv X pins σ (upd H s.heap.objs.size (.tup [x, y])) { s with heap := h'' } :=
      I.turnedNew (t' := s.toks) (ch := [z, TI, TO, i1, i2]) (fun c o hb q => (sb.2 c (fun q' => hb (by simp [q']))).trans (hk c o (fun q' => hb (by simp [q'])) (fun q' => hb (by simp [q'])) (fun q' => hb (by simp [q'])) (fun q' => hb (by simp [q'])) q)) hf (Nat.le_refl _) new
    refine ⟨.ref s.heap.objs.size, _, I1, rfl, ⟨_, x, y, rfl, I.hok.fresh (Nat.le_refl _), rfl, fun l hl => by rw [I.list_inj hl hqx]; exact hx, fun l hl => by rw [I.list_inj hl hqy]; exact hy⟩, ⟨z'', ?_, ⟨u, u2, ?_⟩, ?_, ?_⟩, fun c hcm => ?_⟩
    · exact (sb.2 _ D.TIz).trans (hk _ _ D.TIz D.TITO D.TIi1 D.TIi2 hTI)
    · exact (sb.2 _ D.TOz).trans TO'
    · exact h1'.at fun o q => (sb.2 _ D.i1z).trans q
    · exact h2'.at fun o q => (sb.2 _ D.i2z).trans q
    · have hlt : c < s.heap.objs.size := by
        have e' : c = z ∨ c = TI ∨ c = TO ∨ c = i1 ∨ c = i2 := by simpa using hcm
        rcases e' with q | q | q | q | q
        · rw [q]; exact hzl
        · rw [q]; exact Heap.lt_size hTI
        · rw [q]; exact Heap.lt_size hTO
        · rw [q]; obtain ⟨_, e1, _⟩ := h1; exact Heap.lt_size e1
        · rw [q]; obtain ⟨_, e2, _⟩ := h2; exact Heap.lt_size e2
      rw [upd_ne (Nat.ne_of_lt hlt)]
      exact (hf c hcm).1
  done := by
    intro X hP hw hK hc i pins s σ H E I hf st hg
    subst hP hw hK
    obtain ⟨hz, hTI, ⟨x0, y0, hTO⟩, h1, h2⟩ := st
    obtain ⟨xs, ys, hqx, hqy, hend⟩ := hg
    obtain ⟨its, rv, p, _⟩ := I.list hqx
    obtain ⟨its2, rv2, p2, _⟩ := I.list hqy
    obtain ⟨q, hqm, _, hot⟩ := hot_at hc I
    have l1 := rv.length
    have l2 := rv2.length
    have he : its.toArray[i]? = none ∨ its2.toArray[i]? = none := by
      rcases hend with q | q
      · exact .inl (by simp; omega)
      · exact .inr (by simp; omega)
    exact pyNext_zip_end_hot hot (fp_ne hqm (hf z (by simp))) (fp_ne hqm (hf TO (by simp))) (fp_ne hqm (hf i1 (by simp))) (fp_ne hqm (hf i2 (by simp))) D hz hTI hTO h1 h2 p.isList p2.isList he fun h' hk => ⟨rfl, I.turnedL (t' := s.toks) (ch := [z, TI, TO, i1, i2]) (fun c o hb q =>
      hk c o (fun q' => hb (by simp [q'])) (fun q' => hb (by simp [q'])) (fun q' => hb (by simp [q'])) (fun q' => hb (by simp [q'])) q) hf⟩
  self := fun A i s Q E st h => wpAny_pyIter_zip st.1 h
theorem pi_listH {X : Cx} {tg l : Expr} {tl : TE} (hl : PE X l tl) : PIH X tg l (iList X.K tl) := by
  refine ⟨fun pins s σ H R I h => ?_⟩
  refine thn (hl.run pins s σ H _ I h) fun v s1 ⟨x, H1, I1, r1, q1⟩ => ?_
  obtain ⟨a, e, ⟨xs, hq⟩, q⟩ := q1
  subst e
  cases r1
  obtain ⟨its, rv, p, hz⟩ := I1.list hq
  refine wpAny_pyIter_list p.isList ?_
  have I2 := I1.kept (t' := s1.toks) (h' := s1.heap.push { cls := .type "list_iterator", data := .fields #[.ref a, .int 0 0] }) fun b o e => Heap.get?_push_of_some _ e
  refine ⟨s1.heap.objs.size, [s1.heap.objs.size], _, _, H1, rfl, I2, turn_listH a _, ⟨_, Heap.get?_push_size _ rfl, rfl, rfl⟩, fun b hb => ?_, q⟩
  have e : b = s1.heap.objs.size := by simpa using hb
  subst e
  exact I1.fpOk (Nat.le_refl _) (I1.hok.fresh (Nat.le_refl _))
theorem pi_zipH {X : Cx} {e e2 : Expr} {ta : TA} {p pos tpos : Pos} {elts : List Expr} {kk : Nat} (hg : Gl X "zip") (hm : X.mg "zip" = none) (ha : PA X [e, e2] ta)
    (hs : starEach [e, e2] X.env = (false, eval e X.env) :: starEach [e2] X.env) (hpl : (backTo pos (starEach [e2] X.env)).any (·.1) = false) :
    PIH X (.Tuple elts kk tpos) (.Call (.Name "zip" p) [e, e2] [] pos) (iZip X.K ta) := by
  refine ⟨fun pins s σ H R I h => ?_⟩
  refine Call_ (ld_blt I hg hm PyProof.Rows.boot_zip (PyProof.Rows.callWith_type1 (thn (ha.run pos pins s σ H _ I h) fun us s1 ⟨vs, H1, I1, r1, q1⟩ => ?_) hs hpl))
  obtain ⟨a, b, xs, ys, ex, hqx, hqy, q⟩ := q1
  subst ex
  cases r1 with
  | cons r rr =>
    cases rr with
    | cons r' rr =>
      cases rr
      cases r
      cases r'
      obtain ⟨its, rv, p1, _⟩ := I1.list hqx
      obtain ⟨its2, rv2, p2, _⟩ := I1.list hqy
      have la : a < s1.heap.objs.size := p1.lt
      have lb : b < s1.heap.objs.size := p2.lt
      refine call_zip_2 p1.isList p2.isList fun h' hz hTI hTO h1 h2 hsz hk => wpAny_pyIter_zip hz ?_
      have I2 : Inv X pins σ H1 { s1 with heap := h' } := I1.kept (t' := s1.toks) hk
      refine ⟨s1.heap.objs.size + 4, [s1.heap.objs.size + 4, s1.heap.objs.size + 2, s1.heap.objs.size + 3, s1.heap.objs.size, s1.heap.objs.size + 1], _, _, H1, rfl, I2, turn_zipH (PySem.W.ktu_apart s1.heap.objs.size a b la lb), ⟨hz, hTI, ⟨_, _, hTO⟩, h1, h2⟩, fun c hcm => ?_, q⟩
      have e' : c = s1.heap.objs.size + 4 ∨ c = s1.heap.objs.size + 2 ∨ c = s1.heap.objs.size + 3 ∨ c = s1.heap.objs.size ∨ c = s1.heap.objs.size + 1 := by simpa using hcm
      have hle : s1.heap.objs.size ≤ c := by
        rcases e' with z | z | z | z | z
        · rw [z]; exact Nat.le_add_right _ _
        · rw [z]; exact Nat.le_add_right _ _
        · rw [z]; exact Nat.le_add_right _ _
        · rw [z]; exact Nat.le_refl _
        · rw [z]; exact Nat.le_add_right _ _
      exact I1.fpOk hle (I1.hok.fresh hle)
end ZH
-- ZH2
set_option Elab.async false
set_option linter.all false
set_option maxRecDepth 100000
set_option maxHeartbeats 2000000
/-! Layer ZH, part 2: list comprehensions while an exception is handled. -/
namespace ZH
open PySem PySem.Spec PyProof.Rows L2 L2H HotX
/-- the block's context, the handled exception known in it -/
abbrev blkH (X : Cx) (s : Shared) (H : Hp) (scope : Scope) (cenv : Env) (fp : List Addr) (p : Addr × Obj) : Cx := { X.blk s H scope cenv fp with pn := [p] }
section
variable {X : Cx} {pins : List (Addr × Obj)} {σ : L2.St} {H : Hp} {s : Shared}
theorem blk_pin {Y : Cx} {σ' : L2.St} {H' : Hp} {s' : Shared} {p : Addr × Obj} (I : Inv Y [] σ' H' s') (h : s'.heap.get? p.1 = some p.2 ∧ H' p.1 = none ∧ p.1 ≠ Y.env.locals ∧ p.1 ∉ Y.fs ∧ ∀ v, p.2.data ≠ .cell v) : Inv { Y with pn := [p] } [] σ' H' s' :=
  ⟨⟨I.ok.mod, I.ok.kind, I.ok.glob, I.ok.blt, I.ok.above, I.ok.inj, I.ok.has, I.ok.cab, I.ok.hd, I.ok.frames, I.ok.stk, I.ok.exf, I.ok.bs, I.ok.bsz, I.ok.noex, I.ok.exfs, I.ok.funs, I.ok.frf⟩, I.os, I.bare, I.base, I.loc, I.cell, I.free, I.freeC,
    fun q hq => by
      have e : q = p := by simpa using (show q ∈ [p] ++ ([] : List (Addr × Obj)) from hq)
      rw [e]
      exact h, I.hok, I.len⟩
theorem lc_coreH {Q : VK} {elt tg iter : Expr} {ifs : List Expr} {scope : Scope} {own : List (Str × Nat)} {pos pos' : Pos} {wi : TI} {g : TG} {tt : TT} {te : TE} {use : Option (Value → Sem Unit)} {Qf : Value → Shared → Prop}
    (hc : HotC X) (hN : X.N.Nodup) (I : Inv X pins σ H s) (hi : PIH X tg iter wi) (ok : BlkOk X.N X.env.scope scope own)
    (hg : ∀ (s : Shared) (H : Hp) (C : Addr) (cl : List (Str × Addr)) (fp : List Addr) (p : Addr × Obj), HotC (blkH X s H scope (compEnvC scope cl C X.env) fp p) → PG (blkH X s H scope (compEnvC scope cl C X.env) fp p) tg g)
    (ht : ∀ (s : Shared) (H : Hp) (C : Addr) (cl : List (Str × Addr)) (fp : List Addr) (p : Addr × Obj), HotC (blkH X s H scope (compEnvC scope cl C X.env) fp p) → PTs (blkH X s H scope (compEnvC scope cl C X.env) fp p) ifs tt)
    (he : ∀ (s : Shared) (H : Hp) (C : Addr) (cl : List (Str × Addr)) (fp : List Addr) (p : Addr × Obj), HotC (blkH X s H scope (compEnvC scope cl C X.env) fp p) → PE (blkH X s H scope (compEnvC scope cl C X.env) fp p) elt te) (hs : ∀ x, foldedSetIterable iter X.env x = pure x)
    (h : tLc wi g tt te (own.map (·.2)) σ H Q)
    (hRR : ∀ D C s' m H', Inv X pins σ H' s' → Q (.ref D) H' → s'.heap.Ns C m → FpOk X pins H' C → compPost (model X.prog X.w) X.A X.xe use Qf (.ref D) C (.ok .next) s') :
    wpAny (model X.prog X.w) X.A (comprehension (.ListComp elt [⟨tg, iter, ifs, 0⟩] scope pos) scope X.env pos' (newList []) false (eval iter X.env) use) Qf X.xe s := by
  have hfree : ∀ y ∈ scope.names, y.2 = .free → ∃ c, X.env.cells.lookup y.1 = some c := fun y hy e => by
    rcases ok.free y hy e with k | k
    · exact I.ok.has _ (.inl k)
    · exact I.ok.has _ (.inr k)
  obtain ⟨p, hp1, hpm⟩ := id hc
  refine wpAny_comprehension_free (use := use) rfl hs (closure_ok hfree) ok.kind (fun y hy e => by rw [ok.uniq y hy, e])
    (thn (hi.run pins s σ H _ I h) fun xv s1 hx => thn hx fun itv s2 h2 => ?_)
  obtain ⟨it, fp, tn, J, H2, e, I2, T, st2, f2, q⟩ := h2
  subst e
  refine wpAny_newObj_type (newEnv_comp ?_) (by show 0 ≤ sizeLine; decide)
  generalize hD : s2.heap.objs.size = D
  have hDn : H2 D = none := I2.hok.fresh (Nat.le_of_eq hD)
  obtain ⟨W, ⟨m0, w0⟩, turn⟩ := q D hDn
  generalize hs3 : ({ s2 with heap := s2.heap.push { cls := .type "list", data := .seq ([] : List Value).toArray } } : Shared) = s3
  have I3 : Inv X pins σ (upd H2 D (.lst [])) s3 := by
    rw [← hs3]
    refine I2.laid (t' := s2.toks) (fun b o e => Heap.get?_push_of_some _ e) (Nat.le_of_eq hD) ⟨Nat.zero_le _, [], 0, .nil, ?_⟩
    rw [← hD]
    exact Heap.get?_push_size _ rfl
  have h3 : s3.heap = s2.heap.push { cls := .type "list", data := .seq ([] : List Value).toArray } := by rw [← hs3]
  have sz : ∀ b ∈ fp, b < s2.heap.objs.size := fun b hb => by
    obtain ⟨o, e, _⟩ := T.obj _ _ st2 b hb
    exact Heap.lt_size e
  have f3 : ∀ b ∈ fp, FpOk X pins (upd H2 D (.lst [])) b ∧ b < s3.heap.objs.size := fun b hb => by
    have hlt := sz b hb
    refine ⟨⟨?_, (f2 b hb).2⟩, by rw [h3, Heap.size_push]; exact Nat.lt_succ_of_lt hlt⟩
    rw [upd_ne (by rw [← hD]; exact Nat.ne_of_lt hlt)]
    exact (f2 b hb).1
  have st3 : tn 0 s3.heap := T.keep _ _ _ st2 fun b _ o e => by rw [h3]; exact Heap.get?_push_of_some _ e
  have pin3 := I3.pin p (List.mem_append_left _ hpm)
  have I4 : Inv (blkH X s3 (upd H2 D (.lst [])) scope (compEnvC scope (cellsFrom (s3.heap.objs.size + 1) scope.names (cloFrom X.env.cells scope.names [])) s3.heap.objs.size X.env) fp p) [] (wipe σ (own.map (·.2))) (upd H2 D (.lst [])) { s3 with heap := pushCells (s3.heap.push { cls := .type "dict", data := .dict #[] }) scope.names } := by
    refine blk_pin (block_start I3 ok hN f3) ⟨pushCells_keeps _ _ _ _ (Heap.get?_push_of_some _ pin3.1), pin3.2.1, ?_, fun z => ?_, pin3.2.2.2.2⟩
    · show p.1 ≠ s3.heap.objs.size
      exact Nat.ne_of_lt (Heap.lt_size pin3.1)
    · rcases List.mem_cons.mp (I3.stkSub _ z) with e | e
      · exact pin3.2.2.1 e
      · exact pin3.2.2.2.1 e
  have hotB : ∀ ce : Env, HotC (blkH X s3 (upd H2 D (.lst [])) scope ce fp p) := fun ce => ⟨p, hp1, List.mem_singleton.mpr rfl⟩
  have pg := hg s3 (upd H2 D (.lst [])) s3.heap.objs.size (cellsFrom (s3.heap.objs.size + 1) scope.names (cloFrom X.env.cells scope.names [])) fp p (hotB _)
  have pt := ht s3 (upd H2 D (.lst [])) s3.heap.objs.size (cellsFrom (s3.heap.objs.size + 1) scope.names (cloFrom X.env.cells scope.names [])) fp p (hotB _)
  have pe := he s3 (upd H2 D (.lst [])) s3.heap.objs.size (cellsFrom (s3.heap.objs.size + 1) scope.names (cloFrom X.env.cells scope.names [])) fp p (hotB _)
  show codeAny _ _ (.compStart (.ListComp elt [⟨tg, iter, ifs, 0⟩] scope pos) 0 (.ref it) (.ref D) (compEnvC scope (cellsFrom (s3.heap.objs.size + 1) scope.names (cloFrom X.env.cells scope.names [])) s3.heap.objs.size X.env)) (compPost (model X.prog X.w) X.A X.xe use Qf (.ref D) s3.heap.objs.size) { s3 with heap := pushCells (s3.heap.push { cls := .type "dict", data := .dict #[] }) scope.names }
  have nfp : ∀ b ∈ fp, (upd H2 D (.lst [])) b = none := fun b hb => (f3 b hb).1.1
  have pfp : ∀ b ∈ fp, p.1 ≠ b := fun b hb => fp_ne hpm (f3 b hb).1
  generalize hce : compEnvC scope (cellsFrom (s3.heap.objs.size + 1) scope.names (cloFrom X.env.cells scope.names [])) s3.heap.objs.size X.env = ce at I4 pg pt pe ⊢
  have cL : ce.locals = s3.heap.objs.size := by subst hce; rfl
  have hotC := hotB ce
  clear hotB
  generalize hH3 : upd H2 D (.lst []) = H3 at I3 I4 pg pt pe w0 nfp f3 hotC pin3
  generalize hs4 : ({ s3 with heap := pushCells (s3.heap.push { cls := .type "dict", data := .dict #[] }) scope.names } : Shared) = s4 at I4 ⊢
  have st4 : tn 0 s4.heap := T.keep _ _ _ st3 fun b _ o e => by rw [← hs4]; exact pushCells_keeps _ _ _ _ (Heap.get?_push_of_some _ e)
  have stat : ∀ {σ' : L2.St} {H' : Hp} {s' : Shared}, Inv (blkH X s3 H3 scope ce fp p) [] σ' H' s' → (∀ b ∈ fp, H' b = none) → ∀ b ∈ fp, FpOk (blkH X s3 H3 scope ce fp p) [] H' b := fun {σ' H' s'} I' hn b hb =>
    ⟨hn b hb, (I'.ok.exf b hb).1, I'.ok.exfs b hb, .inl hb, fun x c e => (I'.ok.exf b hb).2 x c e, fun q hq => by
      have e : q = p := by simpa using (show q ∈ [p] ++ ([] : List (Addr × Obj)) from hq)
      rw [e]
      exact pfp b hb⟩
  have loop : codeAny (model X.prog X.w) X.A (.compLoop (.ListComp elt [⟨tg, iter, ifs, 0⟩] scope pos) 0 (.ref it) (.ref D) ce) (compPost (model X.prog X.w) X.A X.xe use Qf (.ref D) s3.heap.objs.size) s4 := by
    refine compLoop_any (fun n s' => ∃ i H', Inv (blkH X s3 H3 scope ce fp p) [] (wipe σ (own.map (·.2))) H' s' ∧ tn i s'.heap ∧ (∀ b ∈ fp, H' b = none) ∧ W i n H') ?_ m0 ⟨0, H3, I4, st4, nfp, w0⟩
    rintro n s5 ⟨i, H5, I5, st5, n5, w5⟩
    rcases turn i n H5 w5 with ⟨stop, qq⟩ | ⟨go, Nx, hNx, step⟩
    · have td := T.done (blkH X s3 H3 scope ce fp p) rfl rfl rfl hotC i [] s5 _ H5 (fun _ _ => False) I5 (stat I5 n5) st5 stop
      refine thnF td fun r s6 ⟨hr, I6⟩ => ?_
      subst hr
      have I7 : Inv X pins σ H5 s6 := I3.call' (ch := fp) I6.os I6.base I6.hok I6.bare fun b hb => ⟨(f3 b hb).1.2.2.2.1, (f3 b hb).1.2.1, (f3 b hb).1.2.2.2.2.1, (f3 b hb).1.2.2.2.2.2⟩
      have nC : H5 s3.heap.objs.size = none := by
        have z : H5 ce.locals = none := I6.free
        rw [cL] at z
        exact z
      obtain ⟨m, hn, _⟩ := I6.loc
      have hn : s6.heap.Ns ce.locals m := hn
      rw [cL] at hn
      exact hRR D s3.heap.objs.size s6 m H5 I7 qq hn (I3.fpOk (Nat.le_refl _) nC)
    · have ti := T.item (blkH X s3 H3 scope ce fp p) rfl rfl rfl hotC i [] s5 _ H5 (fun _ _ => False) I5 (stat I5 n5) st5 go
      refine thnF ti fun r s6 ⟨u, hr, h6⟩ => ?_
      subst hr
      refine thnF h6 fun _ s7 ⟨x, H7, I7, r7, y7, st7, n7⟩ => ?_
      have I7' := I7.pinned (stat I7 n7) (T.obj _ _ st7)
      refine thnF (pg.run _ s7 _ H7 x u _ I7' r7 (step x H7 y7)) fun _ s8 ⟨σ8, H8, I8, hw8, q8⟩ => ?_
      refine thnF (pt.run _ s8 σ8 H8 _ I8 q8) fun b s9 ⟨H9, I9, q9⟩ => ?_
      have fin : ∀ {s' : Shared} {H' : Hp}, Inv (blkH X s3 H3 scope ce fp p) ([] ++ pinsAt fp s7.heap) σ8 H' s' → Nx H' → ∃ m, m < n ∧ ∃ i H', Inv (blkH X s3 H3 scope ce fp p) [] (wipe σ (own.map (·.2))) H' s' ∧ tn i s'.heap ∧ (∀ b ∈ fp, H' b = none) ∧ W i m H' := fun {s' H'} I' nx => by
        obtain ⟨m', hm, w'⟩ := hNx H' nx
        have pin' : ∀ b ∈ fp, ∀ o, s7.heap.get? b = some o → s'.heap.get? b = some o ∧ H' b = none := fun b hb o e =>
          let z := I'.pin (b, o) (List.mem_append_right _ (List.mem_append_right _ (mem_pinsAt hb e)))
          ⟨z.1, z.2.1⟩
        have hl : (wipe σ (own.map (·.2))).length = σ8.length := by rw [← hw8, wipe_length]
        refine ⟨m', hm, i + 1, H', (I'.unpinned (pins := [])).weak hl (fun j v e => ?_), T.keep _ _ _ st7 fun b hb o e => (pin' b hb o e).1, fun b hb => ?_, w'⟩
        · rw [← hw8] at e
          exact (wipe_some e).1
        · obtain ⟨o, e, _⟩ := T.obj _ _ st7 b hb
          exact (pin' b hb o e).2
      cases b with
      | false =>
        simp only [Bool.false_eq_true, if_false] at q9 ⊢
        exact fin I9 q9
      | true =>
        simp only [if_true] at q9 ⊢
        refine thnF (pe.run _ s9 σ8 H9 _ I9 q9) fun z s10 ⟨yv, H10, I10, r10, acc, hD10, hz10, nx⟩ => ?_
        exact app_ok (X := blkH X s3 H3 scope ce fp p) I10 hD10 hz10 r10 fun s11 I11 => fin I11 nx
  exact codeAny_compStart_list loop (T.self X.A 0 _ _ _ st4 loop)
theorem pe_lcH {elt tg iter : Expr} {ifs : List Expr} {scope : Scope} {own : List (Str × Nat)} {pos : Pos} {wi : TI} {g : TG} {tt : TT} {te : TE} (hc : HotC X) (hN : X.N.Nodup) (hi : PIH X tg iter wi) (ok : BlkOk X.N X.env.scope scope own)
    (hg : ∀ (s : Shared) (H : Hp) (C : Addr) (cl : List (Str × Addr)) (fp : List Addr) (p : Addr × Obj), HotC (blkH X s H scope (compEnvC scope cl C X.env) fp p) → PG (blkH X s H scope (compEnvC scope cl C X.env) fp p) tg g)
    (ht : ∀ (s : Shared) (H : Hp) (C : Addr) (cl : List (Str × Addr)) (fp : List Addr) (p : Addr × Obj), HotC (blkH X s H scope (compEnvC scope cl C X.env) fp p) → PTs (blkH X s H scope (compEnvC scope cl C X.env) fp p) ifs tt)
    (he : ∀ (s : Shared) (H : Hp) (C : Addr) (cl : List (Str × Addr)) (fp : List Addr) (p : Addr × Obj), HotC (blkH X s H scope (compEnvC scope cl C X.env) fp p) → PE (blkH X s H scope (compEnvC scope cl C X.env) fp p) elt te) (hs : ∀ x, foldedSetIterable iter X.env x = pure x) :
    PE X (.ListComp elt [⟨tg, iter, ifs, 0⟩] scope pos) (tLc wi g tt te (own.map (·.2))) := by
  refine ⟨fun pins s σ H Q I h => ?_⟩
  rw [eval_ListComp]
  refine lc_coreH hc hN I hi ok hg ht he hs h fun D C s' m H' I' q hn f => ⟨m, hn, fun h'' sb => ?_⟩
  obtain ⟨f0, f1, f2, f3, f4, f5⟩ := f
  exact ⟨.ref D, H', I'.turned (t' := s'.toks) (fun b o hb e => (sb.2 b hb).trans e) f0 f1 f3 f4 f5, rfl, q⟩
theorem ps_setLcH {i : Nat} {y : Str} {py : Pos} {elt tg iter : Expr} {ifs : List Expr} {scope : Scope} {own : List (Str × Nat)} {pos spos : Pos} {wi : TI} {g : TG} {tt : TT} {te : TE} (hc : HotC X) (hN : X.N.Nodup) (hy : X.N[i]? = some y) (hyl : X.env.scope.names.lookup y = some .local)
    (hsw : swapsWith (.ListComp elt [⟨tg, iter, ifs, 0⟩] scope pos) (some (.Name y py)) spos.line X.env = pure true) (hi : PIH X tg iter wi) (ok : BlkOk X.N X.env.scope scope own)
    (hg : ∀ (s : Shared) (H : Hp) (C : Addr) (cl : List (Str × Addr)) (fp : List Addr) (p : Addr × Obj), HotC (blkH X s H scope (compEnvC scope cl C X.env) fp p) → PG (blkH X s H scope (compEnvC scope cl C X.env) fp p) tg g)
    (ht : ∀ (s : Shared) (H : Hp) (C : Addr) (cl : List (Str × Addr)) (fp : List Addr) (p : Addr × Obj), HotC (blkH X s H scope (compEnvC scope cl C X.env) fp p) → PTs (blkH X s H scope (compEnvC scope cl C X.env) fp p) ifs tt)
    (he : ∀ (s : Shared) (H : Hp) (C : Addr) (cl : List (Str × Addr)) (fp : List Addr) (p : Addr × Obj), HotC (blkH X s H scope (compEnvC scope cl C X.env) fp p) → PE (blkH X s H scope (compEnvC scope cl C X.env) fp p) elt te) (hs : ∀ x, foldedSetIterable iter X.env x = pure x) :
    PS X (.Assign [.Name y py] (.ListComp elt [⟨tg, iter, ifs, 0⟩] scope pos) spos) (tAsg (tLc wi g tt te (own.map (·.2))) (gName i)) := by
  refine ⟨fun pins s σ H D I h => ?_⟩
  rw [exec_Assign_Name_used _ _ _ _ hsw]
  refine wpAny_bind (wpAny_standAt (wpAny_bind ?_))
  show wpAny _ X.A (do let _ ← comprehension (.ListComp elt [⟨tg, iter, ifs, 0⟩] scope pos) scope X.env (firstIterPos [⟨tg, iter, ifs, 0⟩] pos) (newList []) false (eval iter X.env) (some (assign (.Name y py) X.env))) _ _ s
  have h : tLc wi g tt te (own.map (·.2)) σ H (fun x H1 => gName i x σ H1 D.nx) := h
  refine wpAny_bind (thn (lc_coreH (Qf := fun _ s' => SP X pins D .next s') hc hN I hi ok hg ht he hs h fun L C s' m H' I' q hn f => ?_) fun _ s' hq => wpAny_pure (wpAny_pure hq))
  show wpAny _ _ (assign (.Name y py) X.env (.ref L)) _ _ _
  refine wpAny_assign_Name (store_ok2 (v := V.ref L) I' hN hy (.inl hyl) rfl (fun s2 I2 ⟨a, sb, ha⟩ => ?_) (.inr hyl))
  obtain ⟨f0, f1, f2, f3, f4, f5⟩ := f
  have haC : C ≠ a := by
    rcases ha with z | z
    · rw [z]; exact f1
    · exact fun e => f4 y a z e.symm
  refine ⟨m, hn.sameBut sb haC, fun h3 sb3 => ?_⟩
  exact ⟨_, H', I2.turned (t' := s2.toks) (fun b o hb e => (sb3.2 b hb).trans e) f0 f1 f3 f4 f5, q⟩
end
end ZH
-- ZH3
set_option Elab.async false
set_option linter.all false
set_option maxRecDepth 100000
set_option maxHeartbeats 2000000
/-! Layer ZH, part 3: a def called in an except suite with the exception itself; isinstance of it. -/
namespace ZH
open PySem PySem.Spec PyProof.Rows L2 L2H HotX
/-- what a def promises while p is handled -/
structure FnHp (P : Program) (w : World) (K : PySem.W.Frag) (mg : Str → Option Value) (base : Heap) (CX : CXT) (k : Nat) (f : Addr) (fd : FuncData) (ps : List Str) (p : Addr × Obj) (sp : Sp) : Prop where
  len : ∀ vs H Q E, sp vs H Q E → vs.length = ps.length
  run : ∀ (A : Around) (outer : List Env) (s : Shared) (H : Hp) (args : Args) (us : List Value) (vs : List V) (Q : VK) (E : XK), RoomH k A → Hot1 A p → PinOk outer H s p → Env0 P w K mg base A outer s H → BindsTo s fd args (ps.zip us) → Vals vs us → sp vs H Q E →
    codeAny (model P w) A (.call (.ref f) args) (CR CX outer P w H s Q E) s
theorem fn_ofHp {CX : CXT} {P : Program} {w : World} {K : PySem.W.Frag} {mg : Str → Option Value} {base : Heap} {k : Nat} {f : Addr} {name qual : Str} {params : Arguments} {body : List Stmt} {scope : Scope} {dV kV doc pm cdv ct oc : Value} {an od : Option Addr}
    {osl : Array (Option Value)} {N ps : List Str} {sp : Sp} {p : Addr × Obj} (lk : K.lookup f = some ⟨oc, od, .func (PySem.W.fnOf name qual params body scope dV kV doc pm an cdv ct), osl⟩) (hcd : PySem.W.codeIn K cdv qual = true) (S : FnScope N ps scope)
    (len : ∀ vs H Q E, sp vs H Q E → vs.length = ps.length)
    (hbody : ∀ (A : Around) (outer : List Env) (s : Shared) (H : Hp) (vs : List V) (Q : VK) (E : XK), Hot1 A p → RoomH k (A.deeper (envOfC qual scope s.heap.objs.size f cdv)) → sp vs H Q E →
      ∃ t, PSs (cxH CX P w K mg base N qual scope f cdv A outer s H E p) body t ∧ t { nx := fun _ H' => Q .non H', rt := Q } (L2.start N vs) H) :
    FnHp P w K mg base CX (k + 1) f (PySem.W.fnOf name qual params body scope dV kV doc pm an cdv ct) ps p sp := by
  refine ⟨len, fun A outer s H args us vs Q E hr hot hpin e0 hb r hsp => ?_⟩
  have hl := len _ _ _ _ hsp
  have KX : K.In s.heap := e0.mod.kin.keeps fun b o e => (e0.bs b o e).1
  have lim : s.heap.NoLimit := e0.mod.nolimit.keeps fun b o e => (e0.bs b o e).1
  have hkind : ∀ y ∈ ps.zip us, scope.names.lookup y.1 = some .local ∨ (scope.names.lookup y.1 = some .cell ∧ ((cellsFrom (s.heap.objs.size + 1) scope.names []).lookup y.1).isSome = true) := fun ⟨n, v⟩ hy => by
    rcases S.par n (List.of_mem_zip hy).1 with q | q
    · exact .inl q
    · exact .inr ⟨q, PySem.W.cellsFrom_some _ _ _ (.inl q)⟩
  refine codeAny_call_function hr.depth (KX _ _ lk) rfl S.co S.gen rfl (PySem.W.codeRec_of KX hcd) (hb _ _ _ _ ?_)
  refine wpAny_newFunctionEnv_cells S.kind hkind fun env he s1 x => ?_
  subst he
  refine ⟨lim.keeps x.toInCall.keep, codeAny_func ?_⟩
  obtain ⟨t, ht, hq⟩ := hbody A outer s H vs Q E hot (hr.deeper _) hsp
  have I : Inv (cxH CX P w K mg base N qual scope f cdv A outer s H E p) [] (L2.start N vs) H s1 := inv_startH S hpin e0 hl r x
  refine wpAny_mono (ht.run [] s1 (L2.start N vs) H _ I hq) (fun fl s' hs => ?_) fun e s' hs => hs
  have fin : ∀ {σ' : L2.St} {H' : Hp} {v : V} {u : Value}, Inv (cxH CX P w K mg base N qual scope f cdv A outer s H E p) [] σ' H' s' → RelV v u → Q v H' → CE outer P w H s Q u s' :=
    fun {σ' H' v u} J rv q => ⟨v, H', J.os, J.bare, J.base, J.hok, rv, q⟩
  cases fl with
  | ret u =>
    obtain ⟨v, σ', H', J, rv, q⟩ := hs
    exact fin J rv q
  | next =>
    obtain ⟨σ', H', J, q⟩ := hs
    exact fin (v := V.non) (u := Value.none) J rfl q
  | brk =>
    obtain ⟨_, _, _, q⟩ := hs
    exact False.elim q
  | cont =>
    obtain ⟨_, _, _, q⟩ := hs
    exact False.elim q
section
variable {X : Cx} {CX : CXT} {k : Nat} {f : Addr} {fd : FuncData} {ps : List Str} {sp : Sp} {E : L2.St → XK} {x : Str} {q pos : Pos} {e : Expr} {es : List Expr} {t : TA} {p : Addr × Obj}
theorem pe_callHp (F : FnHp X.prog X.w X.K X.mg X.base CX k f fd ps p sp) (hr : RoomH k X.A) (hot : Hot1 X.A p) (hp : p ∈ X.pn) (hg : Gl X x) (hm : X.mg x = some (.ref f)) (hk : PySem.W.keepIn X.K (.ref f) = true) (hb : Binds X.K fd ps []) (hx : ∀ σ, PassesAt CX X σ (E σ))
    (ha : PA X (e :: es) t) (hdb : (x == ("__debug__" : Str)) = false) (he : starEach (e :: es) X.env = (false, eval e X.env) :: starEach es X.env) (hpl : (backTo pos (starEach es X.env)).any (·.1) = false) :
    PE X (.Call (.Name x q) (e :: es) [] pos) (tCallS sp E t) := by
  refine ⟨fun pins s σ H Q I h => ?_⟩
  refine wpAny_Call_Name_kw (ld_glob I hg hm ?_ hdb)
  refine PySem.W.callWith_K (h₀ := X.base) I.ok.mod.kin hk (thn (ha.run pos pins s σ H _ I h) fun us s1 ⟨vs, H1, I1, r, q⟩ => ⟨I1.kIn, ?_⟩) he hpl
  have hl : us.length = ps.length := by rw [← r.length]; exact F.len _ _ _ _ q
  have b := hb s1 us I1.kIn (by rw [List.append_nil]; exact hl)
  rw [List.append_nil] at b
  have P1 := I1.pin p (List.mem_append_left _ hp)
  have hpin : PinOk X.stack H1 s1 p := ⟨P1.1, P1.2.1, fun hm => (List.mem_cons.mp (I1.stkSub p.1 hm)).elim P1.2.2.1 P1.2.2.2.1, P1.2.2.2.2⟩
  refine wpAny_call (codeAny_mono (F.run X.A X.stack s1 H1 ⟨us, []⟩ us vs Q (E σ) hr hot hpin I1.env0 b r q) fun r s' hq => ?_)
  cases r with
  | error e => exact hx σ pins H1 s1 e s' I1 hq
  | ok fl =>
    cases fl with
    | ret u => exact I1.after hq
    | next => exact False.elim hq
    | brk => exact False.elim hq
    | cont => exact False.elim hq
/-- isinstance(e, c), e the exception at p -/
theorem call_isEp {D : Addr} (C : ExcC X.K D) (hp : p ∈ X.pn) (hz : Zc (.ref D) none p.2) (hf : ∃ vs, p.2.data = .fields vs) : CallR X (.builtin "isinstance") (rIsE X.K D p.1) := by
  intro pins s σ H xs us Q I r h
  obtain ⟨c, cv, b, rfl, hcv, e, q⟩ := h
  cases r with
  | cons rx rr =>
    cases rr with
    | cons rt rr =>
      cases rr
      cases rx
      have ec := hcv _ rt
      subst ec
      obtain ⟨hget, _⟩ := I.pin p (List.mem_append.mpr (.inl hp))
      obtain ⟨vs, hv⟩ := hf
      have J : PySem.W.InstAt s.heap p.1 p.2 D none := by
        obtain ⟨a, oc, od, oda, osl⟩ := p
        obtain ⟨h1, h2⟩ := hz
        dsimp only at h1 h2 hv hget
        subst h1 h2 hv
        exact ⟨hget, rfl, rfl, trivial⟩
      exact PySem.W.kia_one (PySem.W.handS_kitx_exc C.hg C.hk C.hs C.hd C.ha C.hn C.ht C.hm) I.kIn J e (fun z => nomatch z) fun tk => ⟨.bl b, H, I.kept (t' := tk) fun _ _ z => z, rfl, q⟩
end
end ZH
-- ZL0
set_option Elab.async false
set_option linter.all false
set_option maxRecDepth 100000
set_option maxHeartbeats 2000000
/-! Layer ZL, part 0: a lambda handed to a def, exceptions whose context is None. -/
namespace ZL
open PySem PySem.Spec PyProof.Rows L2 LamX
theorem inv_xe {Y : Cx} {pins : List (Addr × Obj)} {σ : L2.St} {H : Hp} {s : Shared} (xe : Value → Shared → Prop) (I : Inv Y pins σ H s) : Inv { Y with xe := xe } pins σ H s :=
  ⟨⟨I.ok.mod, I.ok.kind, I.ok.glob, I.ok.blt, I.ok.above, I.ok.inj, I.ok.has, I.ok.cab, I.ok.hd, I.ok.frames, I.ok.stk, I.ok.exf, I.ok.bs, I.ok.bsz, I.ok.noex, I.ok.exfs, I.ok.funs, I.ok.frf⟩, I.os, I.bare, I.base, I.loc, I.cell, I.free, I.freeC, I.pin, I.hok, I.len⟩
/-- the context of the lambda's body -/
def lamCxN (X : Cx) (A : Around) (outer : List Env) (s : Shared) (H : Hp) (E : XK) (scope : Scope) (f c' : Addr) : Cx :=
  { lamCx X A outer s H E scope f c' with
    xe := fun e s' => wpAny (model X.prog X.w) (A.deeper (lamEnv X scope s.heap.objs.size f c')) (leaving (lamEnv X scope s.heap.objs.size f c') e) (fun _ s'' => L2N.CX X.prog X.w outer H s E e s'') (fun e' s'' => L2N.CX X.prog X.w outer H s E e' s'') s' }
section
variable {X : Cx} {pins : List (Addr × Obj)} {σ : L2.St} {H HZ : Hp} {s s1 : Shared}
theorem lam_takes {A : Around} {outer : List Env} {E : XK} {scope : Scope} {f c' : Addr} : L2N.Takes (lamCxN X A outer s H E scope f c') (fun cls d _ H => E cls d H) := L2N.takes_of rfl rfl rfl rfl
theorem pe_actN {CXg : CXT} {Eg : XK} {Ng : List Str} {qg : Str} {sg : Scope} {g f c' : Addr} {cdg pm ctv : Value} {params : Arguments} {body : Expr} {scope : Scope} {k i : Nat} {a : Str} {pn : List (Addr × Obj)} {xe : Value → Shared → Prop} {W : WX} {E : XK} {tb : TE} {p1 p2 : Pos}
    (I : Inv X pins σ H s) (L : LamS X.env.scope scope) (hf : s.heap.get? f = some (PySem.W.kla_obj "<lambda>" (X.env.qual ++ "<lambda>") params body scope (cloFrom X.env.cells scope.names []) pm c' ctv)) (hfn : H f = none) (hfr : f ∉ frs X.stack)
    (hbind : bindArgs (PySem.W.kla_fn "<lambda>" (X.env.qual ++ "<lambda>") params body scope (cloFrom X.env.cells scope.names []) pm (.ref c') ctv) ⟨[], []⟩ = pure [])
    (tk : L2N.Takes ((cxOf CXg X.prog X.w X.K X.mg X.base Ng qg sg g cdg X.A X.stack s H Eg).tr pn xe) W) (hW : ∀ cls d σ' H', E cls d H' → W cls d σ' H') (hr : Room (k + 1) (X.A.deeper (envOfC qg sg s.heap.objs.size g cdg)))
    (hbody : ∀ (A : Around) (outer : List Env) (s : Shared) (H : Hp), Room k (A.deeper (lamEnv X scope s.heap.objs.size f c')) → PE (lamCxN X A outer s H E scope f c') body tb)
    (hN : Ng[i]? = some a) (hv : Vis sg a) (hd : (a == ("__debug__" : Str)) = false) (hcd : (a == ("__classdict__" : Str)) = false) :
    PE ((cxOf CXg X.prog X.w X.K X.mg X.base Ng qg sg g cdg X.A X.stack s H Eg).tr pn xe) (.Call (.Name a p1) [] [] p2)
      (fun σZ HZ Q => σZ[i]? = some (some (.ref f)) ∧ HZ c' = some (CodeO c' (X.env.qual ++ "<lambda>")) ∧ tb σ HZ Q) := by
  refine ⟨fun pinsZ sZ σZ HZ Q IZ h => ?_⟩
  obtain ⟨hs, hc, ht⟩ := h
  refine wpAny_Call_Name_kw (thn ((pe_var (pos := p1) (i := i) hN hv hd hcd).run pinsZ sZ σZ HZ (fun v H1 => v = .ref f ∧ H1 = HZ) IZ ⟨.ref f, hs, rfl, rfl⟩) fun u s1 ⟨v, H1, I1, r1, q1⟩ => ?_)
  obtain ⟨ev, eH⟩ := q1
  subst ev
  rw [eH] at I1
  obtain rfl : u = Value.ref f := r1
  have of1 : s1.heap.get? f = some (PySem.W.kla_obj "<lambda>" (X.env.qual ++ "<lambda>") params body scope (cloFrom X.env.cells scope.names []) pm c' ctv) := I1.base.keep f _ hf hfn hfr (fun z => nomatch (show f ∈ ([] : List Addr) from z))
  refine PySem.W.callWith_F0 ⟨_, _, _, _, of1⟩ ?_
  have un : Un (frs X.stack) [] H HZ s.heap s1.heap := I1.base
  obtain ⟨⟨oc, vs, t, hoc, hdc, hvc⟩, _, _⟩ := I1.hok c' _ hc
  have rc : codeAny (model X.prog X.w) (X.A.deeper (envOfC qg sg s.heap.objs.size g cdg)) (.call (.ref f) ⟨[], []⟩) (CR (L2N.CX X.prog X.w) (envOfC qg sg s.heap.objs.size g cdg :: X.stack) X.prog X.w HZ s1 Q E) s1 := by
    refine PySem.W.kla_callFunE hr.depth of1 rfl L.co L.gen rfl ⟨c', oc, vs, t, rfl, hoc, hdc, hvc⟩ ?_
    rw [hbind]
    refine wpAny_pure (wpAny_newFunctionEnv (fun y hy => (L.own y hy).2) (fun y hy => absurd hy (by simp)) (fun h₁ hns hsb => ⟨I1.nolimit.fresh _ hsb, ?_⟩) L.kind)
    show codeAny _ _ (.expr body (lamEnv X scope s1.heap.objs.size f c')) _ _
    have kp : ∀ b o, s1.heap.get? b = some o → h₁.get? b = some o := fun b o e => hsb.extBut b o (Nat.ne_of_lt (Heap.lt_size e)) (Heap.get?_push_of_some _ e)
    have J : Inv (lamCxN X (X.A.deeper (envOfC qg sg s.heap.objs.size g cdg)) (envOfC qg sg s.heap.objs.size g cdg :: X.stack) s1 HZ E scope f c') [] σ HZ { s1 with heap := h₁, toks := s1.toks + ([] : List (Str × Value)).length } :=
      inv_xe _ (lam_start2 (E := E) I L I1.env0 hr.hd un hns kp)
    refine PySem.W.kla_codeExpr (wpAny_mono ((hbody _ _ s1 HZ (hr.deeper _)).run [] _ _ HZ Q J ht) (fun v s' hq => ?_) fun e s' hq => hq)
    obtain ⟨w', H', J', rv, q⟩ := hq
    exact ⟨w', H', J'.os, J'.bare, J'.base, J'.hok, rv, q⟩
  have hx : Passes (L2N.CX X.prog X.w) ((cxOf CXg X.prog X.w X.K X.mg X.base Ng qg sg g cdg X.A X.stack s H Eg).tr pn xe) E := fun pins σ H s e s' I c => L2N.passes_call tk hW pins σ H s e s' I c
  refine wpAny_call (codeAny_mono rc fun r s' hq => ?_)
  cases r with
  | error e => exact hx pinsZ σZ HZ s1 e s' I1 hq
  | ok fl =>
    cases fl with
    | ret u => exact I1.after hq
    | next => exact False.elim hq
    | brk => exact False.elim hq
    | cont => exact False.elim hq
/-- the def that calls what it got -/
def GivesToN (X : Cx) (Ng : List Str) (x : Str) (sg : Scope) (g : Addr) (cdg : Value) (bg : List Stmt) (a : Str) (q : Str) (TT : (XK → Hp → VK → Prop) → Hp → VK → Prop) : Prop :=
  ∀ (f c' : Addr) (s : Shared) (H : Hp) (Q : VK) (tl : XK → Hp → VK → Prop),
    (∀ (W : WX) (pn : List (Addr × Obj)) (xe : Value → Shared → Prop) (E : XK) (p1 p2 : Pos), L2N.Takes ((cxOf C8.CX0 X.prog X.w X.K X.mg X.base Ng x sg g cdg X.A X.stack s H C8.E0).tr pn xe) W → (∀ cls d σ' H', E cls d H' → W cls d σ' H') →
      PE ((cxOf C8.CX0 X.prog X.w X.K X.mg X.base Ng x sg g cdg X.A X.stack s H C8.E0).tr pn xe) (.Call (.Name a p1) [] [] p2) (fun σZ HZ Q => σZ[0]? = some (some (.ref f)) ∧ HZ c' = some (CodeO c' q) ∧ tl E HZ Q)) →
    H c' = some (CodeO c' q) → Room 3 (X.A.deeper (envOfC x sg s.heap.objs.size g cdg)) → TT tl H Q →
    ∃ t, PSs (cxOf C8.CX0 X.prog X.w X.K X.mg X.base Ng x sg g cdg X.A X.stack s H C8.E0).nox bg t ∧ t { nx := fun _ H' => Q .non H', rt := Q } (L2.start Ng [.ref f]) H
theorem pe_lamcallN {T : List (Addr × Str)} {TT : (XK → Hp → VK → Prop) → Hp → VK → Prop} {x a : Str} {g c P : Addr} {k : Nat} {pg : Arguments} {bg : List Stmt} {sg : Scope} {dV kV doc pm cdv ct oc : Value} {an od : Option Addr} {osl : Array (Option Value)} {Ng : List Str}
    {params : Arguments} {body : Expr} {scope : Scope} {t : XK → TE} {p lpos pos : Pos} (hg : Gl X x) (hm : X.mg x = some (.ref g)) (hk : PySem.W.keepIn X.K (.ref g) = true)
    (lk : X.K.lookup g = some ⟨oc, od, .func (PySem.W.fnOf x x pg bg sg dV kV doc pm an cdv ct), osl⟩) (hcg : PySem.W.codeIn X.K cdv x = true) (hb : L2.Binds X.K (PySem.W.fnOf x x pg bg sg dV kV doc pm an cdv ct) [a] []) (Sg : FnScope Ng [a] sg) (hNg : Ng[0]? = some a) (hva : Vis sg a)
    (hG : GivesToN X Ng x sg g cdv bg a (X.env.qual ++ "<lambda>") TT)
    (TB : TabB X.base X.mg c P) (hcode : X.env.code = .ref c) (hmT : (P, X.env.qual ++ "<lambda>") ∈ T) (hu : ∀ p ∈ T, p.1 = P → p.2 = X.env.qual ++ "<lambda>") (hr : Room (k + 5) X.A) (L : LamS X.env.scope scope) (hdef : defaultsOf params X.env = ([], []))
    (hbind : ∀ (q : Str) (cl : List (Str × Addr)) (pm cv ctv : Value), bindArgs (PySem.W.kla_fn "<lambda>" q params body scope cl pm cv ctv) ⟨[], []⟩ = pure [])
    (hbody : ∀ (A : Around) (outer : List Env) (s : Shared) (H : Hp) (E : XK) (f c' : Addr), Room (k + 3) (A.deeper (lamEnv X scope s.heap.objs.size f c')) → PE (lamCxN X A outer s H E scope f c') body (t E))
    (hdb : (x == ("__debug__" : Str)) = false) (hd : (a == ("__debug__" : Str)) = false) (hcd : (a == ("__classdict__" : Str)) = false) :
    PE X (.Call (.Name x p) [.Lambda params body scope lpos] [] pos) (tLam T TT t) := by
  refine ⟨fun pins s σ H Q I h => ?_⟩
  obtain ⟨hT, h⟩ := h
  refine wpAny_Call_Name_kw (ld_glob I hg hm ?_ hdb)
  refine PySem.W.callWith_K (h₀ := X.base) I.ok.mod.kin hk ?_ (by rfl) (by rfl)
  show wpAny _ _ (spliced ((false, eval (.Lambda params body scope lpos) X.env) :: backTo pos (starEach [] X.env))) _ _ s
  refine Calls.spliced_cons (lam_make2 I TB hcode hmT hu hT hdef (L.has I.ok) fun f c' pm' ctv H1 s' I1 eN T1 hf hfn hfr hco => ?_)
  refine Calls.spliced_nil ⟨I1.kIn, ?_⟩
  have rc : codeAny (model X.prog X.w) X.A (.call (.ref g) ⟨[.ref f], []⟩) (CR C8.CX0 X.stack X.prog X.w H1 s' Q C8.E0) s' := by
    refine run_ofS (N := Ng) (ps := [a]) (us := [.ref f]) (vs := [.ref f]) (k := k + 4) lk hcg Sg hr I1.env0 (hb s' [.ref f] I1.kIn rfl) (.cons rfl .nil) rfl fun hr' => ?_
    obtain ⟨t', ht', hq'⟩ := hG f c' s' H1 Q (fun E H' Q' => t E σ H' Q') (fun W pn xe E p1 p2 tk hW => pe_actN (i := 0) I1 L hf hfn hfr (hbind _ _ _ _ _) tk hW hr' (fun A outer s H hr2 => hbody A outer s H E f c' hr2) hNg hva hd hcd) hco (hr'.mono (by omega)) (h H1 eN T1)
    exact ⟨t', ht'.nox, hq'⟩
  refine wpAny_call (codeAny_mono rc fun r s2 hq => ?_)
  cases r with
  | error e => exact (show False from hq).elim
  | ok fl =>
    cases fl with
    | ret u => exact I1.after hq
    | next => exact False.elim hq
    | brk => exact False.elim hq
    | cont => exact False.elim hq
end
end ZL
-- ZL1
set_option Elab.async false
set_option linter.all false
set_option maxRecDepth 100000
set_option maxHeartbeats 2000000
/-! Layer ZL, part 1: the law's _law_outcome. -/
namespace ZL
open PySem PySem.Spec PyProof.Rows L2 LamX
/-- the heap grows -/
def Grows (H H' : Hp) : Prop := ∀ b o, H b = some o → H' b = some o
/-- what _law_errors promises of an exception p of the class D: the words u -/
def spErr (p : Addr × Obj) (u : Str) : Sp := fun vs H Q _ => vs = [.ref p.1] ∧ ∀ H', Grows H H' → Q (.str u) H'
/-- what comes of a call: the value, or the exception's words -/
def TTo (K : PySem.W.Frag) (CS CF : Addr) (word : Addr → Option Str) : (XK → Hp → VK → Prop) → Hp → VK → Prop := fun tl H Q =>
  tl (fun cls d H' => ∃ D u, cls = .ref D ∧ d = none ∧ PySem.W.exmOne K cls (.ref CS) = some true ∧ PySem.W.kitOne K (.ref D) (.ref CF) = some false ∧ word D = some u ∧
      ∀ H'', Grows H' H'' → ∀ p, H'' p = none → Q (.ref p) (upd H'' p (.tup [.str "error", .str u, .non]))) H
    (fun v H' => [V.str "value", v].length ≤ sizeLine ∧ ∀ p, H' p = none → Q (.ref p) (upd H' p (.tup [.str "value", v])))
theorem pe_no {X : Cx} {e : Expr} : PE X e (fun _ _ _ => False) := ⟨fun _ _ _ _ _ _ h => h.elim⟩
theorem grows_upd {H : Hp} {p : Addr} {o : HO} (n : H p = none) : Grows H (upd H p o) := fun b u e => by
  rw [upd_ne (ne_of_none e n)]
  exact e
section
variable {X : Cx}
/-- the def's text -/
theorem outcome_gives {Ng : List Str} {x q : Str} {sg : Scope} {g CS CF gE : Addr} {cdg : Value} {fdE : FuncData} {psE : List Str} {word : Addr → Option Str} {kE k1 k2 k3 k4 k5 : Nat}
    {p1 p2 p3 p4 p5 p6 p7 p8 p9 p10 p11 p12 p13 p14 p15 p16 p17 p18 p19 p20 p21 p22 : Pos}
    (hN : Ng = (["call", "e"] : List Str)) (he : sg.names.lookup ("e" : Str) = some .local) (hSE : sg.names.lookup ("SchemaError" : Str) = some .globalImplicit) (hSF : sg.names.lookup ("StepFails" : Str) = some .globalImplicit) (hLE : sg.names.lookup ("_law_errors" : Str) = some .globalImplicit) (hII : sg.names.lookup ("isinstance" : Str) = some .globalImplicit)
    (mSE : X.mg "SchemaError" = some (.ref CS)) (mSF : X.mg "StepFails" = some (.ref CF)) (mLE : X.mg "_law_errors" = some (.ref gE)) (mII : X.mg "isinstance" = none)
    (kLE : PySem.W.keepIn X.K (.ref gE) = true) (bLE : Binds X.K fdE psE [])
    (exC : ∀ D u, word D = some u → ExcC X.K D)
    (hE : ∀ (p : Addr × Obj) (D : Addr) (u : Str), word D = some u → Zc (.ref D) none p.2 → (∃ vs, p.2.data = .fields vs) → ZH.FnHp X.prog X.w X.K X.mg X.base C8.CX0 2 gE fdE psE p (spErr p u)) :
    GivesToN X Ng x sg g cdg
      [.Try [.Return (some (.Tuple [.Constant (.str "value") k1 p1, .Call (.Name "call" p2) [] [] p3] k2 p4)) p5]
        [.ExceptHandler (some (.Name "SchemaError" p6)) (some "e") [.Return (some (.Tuple [.Constant (.str "error") k3 p7, .Call (.Name "_law_errors" p8) [.Name "e" p9] [] p10,
          .IfExp (.Call (.Name "isinstance" p11) [.Name "e" p12, .Name "StepFails" p13] [] p14) (.Attribute (.Name "e" p15) "number" p16) (.Constant .none k4 p17) p18] k5 p19)) p20] p21] [] [] p22] "call" q (TTo X.K CS CF word) := by
  subst hN
  intro f c' s H Q tl act hc hroom h
  have hgSE : Gl (cxOf C8.CX0 X.prog X.w X.K X.mg X.base ["call", "e"] x sg g cdg X.A X.stack s H C8.E0).nox "SchemaError" := hSE
  -- what the except suite does
  have suite : ∀ (a : Addr) (oe : Obj) (cls : Value) (d : Option Addr) (pn : List (Addr × Obj)), L2N.Zn cls d oe → (∃ vs, oe.data = .fields vs) →
      PSs ((cxOf C8.CX0 X.prog X.w X.K X.mg X.base ["call", "e"] x sg g cdg X.A X.stack s H C8.E0).nox.suite a ((a, oe) :: pn))
        [.Return (some (.Tuple [.Constant (.str "error") k3 p7, .Call (.Name "_law_errors" p8) [.Name "e" p9] [] p10,
          .IfExp (.Call (.Name "isinstance" p11) [.Name "e" p12, .Name "StepFails" p13] [] p14) (.Attribute (.Name "e" p15) "number" p16) (.Constant .none k4 p17) p18] k5 p19)) p20]
        (fun D σ H' => ∃ D' u, cls = .ref D' ∧ d = none ∧ PySem.W.kitOne X.K (.ref D') (.ref CF) = some false ∧ word D' = some u ∧ σ[1]? = some (some (.ref a)) ∧
          ∀ H'', Grows H' H'' → ∀ p, H'' p = none → D.rt (.ref p) (upd H'' p (.tup [.str "error", .str u, .non]))) := by
    intro a oe cls d pn hz hf
    refine ⟨fun pins s' σ H' D I ⟨D', u, ec, ed, hk, hw, h1, hq⟩ => ?_⟩
    subst ec ed
    have hzc : Zc (.ref D') none oe := hz.zc
    have hot : L2H.Hot1 ((cxOf C8.CX0 X.prog X.w X.K X.mg X.base ["call", "e"] x sg g cdg X.A X.stack s H C8.E0).nox.suite a ((a, oe) :: pn)).A (a, oe) := by
      obtain ⟨vs, hv⟩ := hf
      exact ⟨rfl, vs, hv, hz.2.2 vs hv⟩
    have pv : ∀ pp : Pos, PE ((cxOf C8.CX0 X.prog X.w X.K X.mg X.base ["call", "e"] x sg g cdg X.A X.stack s H C8.E0).nox.suite a ((a, oe) :: pn)) (.Name "e" pp) (tVar 1) := fun pp => pe_var rfl (.inl he)
    have hg1 : Gl ((cxOf C8.CX0 X.prog X.w X.K X.mg X.base ["call", "e"] x sg g cdg X.A X.stack s H C8.E0).nox.suite a ((a, oe) :: pn)) "_law_errors" := hLE
    have hg2 : Gl ((cxOf C8.CX0 X.prog X.w X.K X.mg X.base ["call", "e"] x sg g cdg X.A X.stack s H C8.E0).nox.suite a ((a, oe) :: pn)) "isinstance" := hII
    have hg3 : Gl ((cxOf C8.CX0 X.prog X.w X.K X.mg X.base ["call", "e"] x sg g cdg X.A X.stack s H C8.E0).nox.suite a ((a, oe) :: pn)) "StepFails" := hSF
    have F := hE (a, oe) D' u hw hzc hf
    have c1 := ZH.pe_callHp (X := (cxOf C8.CX0 X.prog X.w X.K X.mg X.base ["call", "e"] x sg g cdg X.A X.stack s H C8.E0).nox.suite a ((a, oe) :: pn)) (E := fun _ => C8.E0) (q := p8) (pos := p10) F
      ⟨by have := hroom.dp; show X.A.depth + 1 + 3 * 2 + 5 < _; have h0 : (X.A.deeper (envOfC x sg s.heap.objs.size g cdg)).depth = X.A.depth + 1 := rfl; omega, by have := hroom.un; show (X.A.deeper (envOfC x sg s.heap.objs.size g cdg)).units + 16 * 2 + 200 < _; omega⟩
      hot (List.mem_cons_self ..) hg1 mLE kLE bLE (fun σ pins H s e s' I c => c.elim) (pa_cons (pv p9) pa_nil) (by decide) rfl rfl
    have c2 := pe_callB (ZH.call_isEp (X := (cxOf C8.CX0 X.prog X.w X.K X.mg X.base ["call", "e"] x sg g cdg X.A X.stack s H C8.E0).nox.suite a ((a, oe) :: pn)) (exC D' u hw) (p := (a, oe)) (List.mem_cons_self ..) hzc hf) (p := p11) (pos := p14) hg2 mII (by decide +kernel) (pa_cons (pv p12) (pa_cons (pe_glob (pos := p13) (v := .ref CF) hg3 mSF rfl) pa_nil))
    have c3 := pe_ifExp (pos := p18) (pt_val c2) (pe_no (e := .Attribute (.Name "e" p15) "number" p16)) (pe_non (j := k4) (pos := p17))
    refine (pss_one (ps_ret (pos := p20) (pe_tup (x1 := k5) (pos := p19) (pa_cons (pe_str (x := "error") (j := k3) (pos := p7)) (pa_cons c1 (pa_cons c3 pa_nil)))))).run pins s' σ H' D I ?_
    refine ⟨.ref a, h1, rfl, fun H1 g1 => ⟨.ref a, h1, .ref CF, .ref CF, false, rfl, fun u hu => hu, hk, ⟨false, rfl, ?_⟩⟩⟩
    simp only []
    rw [if_neg (by decide)]
    exact ⟨by rw [sizeLine_eq]; show 3 ≤ _; omega, fun p hp => hq H1 g1 p hp⟩
  refine ⟨_, pss_one (L2N.ps_try_as (X := (cxOf C8.CX0 X.prog X.w X.K X.mg X.base ["call", "e"] x sg g cdg X.A X.stack s H C8.E0).nox) (x := "SchemaError") (n := "e") (c := .ref CS) (i := 1) (Wout := fun _ _ _ _ => False)
      (tb := fun W D σ H => ∃ Ech : XK, (∀ cls d σ' H', Ech cls d H' → σ'.length = 2 → W cls d σ' H') ∧ σ[0]? = some (some (.ref f)) ∧ H c' = some (CodeO c' q) ∧ tl Ech H (fun v H' => [V.str "value", v].length ≤ sizeLine ∧ ∀ p, H' p = none → D.rt (.ref p) (upd H' p (.tup [.str "value", v]))))
      (ts := fun a cls d D σ H' => ∃ D' u, cls = .ref D' ∧ d = none ∧ PySem.W.kitOne X.K (.ref D') (.ref CF) = some false ∧ word D' = some u ∧ σ[1]? = some (some (.ref a)) ∧
          ∀ H'', Grows H' H'' → ∀ p, H'' p = none → D.rt (.ref p) (upd H'' p (.tup [.str "error", .str u, .non])))
      rfl rfl (show (["call", "e"] : List Str).Nodup by decide +kernel) rfl he ⟨hgSE, by decide, .inl mSE⟩ (fun u s' ⟨_, _, _, _, _, _, _, _, _, _, _, _, _, _, _, _, z⟩ => z.elim) (fun W pn xe tk _ => ?_) suite), ?_⟩
  · refine ⟨fun pins s' σ H' D I h' => ?_⟩
    obtain ⟨Ech, hW, h1, h2, h3⟩ := h'
    have tk' : L2N.Takes ((cxOf C8.CX0 X.prog X.w X.K X.mg X.base ["call", "e"] x sg g cdg X.A X.stack s H C8.E0).tr pn xe) (fun cls d σ H => σ.length = 2 → W cls d σ H) :=
      fun u s' ⟨a, B, sI, pins, σ, H, cls, d, e, I, nb, up, sky, na, os, ag, w⟩ => tk u s' ⟨a, B, sI, pins, σ, H, cls, d, e, I, nb, up, sky, na, os, ag, w I.len⟩
    have hp := act _ pn xe Ech p2 p3 tk' hW
    have hq := pss_one (ps_ret (pos := p5) (pe_tup (x1 := k2) (pos := p4) (pa_cons (pe_str (x := "value") (j := k1) (pos := p1)) (pa_cons hp pa_nil))))
    exact hq.run pins s' σ H' D I ⟨h1, h2, h3⟩
  · refine ⟨_, fun cls d σ' H' ⟨D', u, ec, ed, hx, hk, hw, hq⟩ hl => ⟨true, hx, fun _ a ha => ⟨D', u, ec, ed, hk, hw, ?_, hq⟩, fun z => nomatch z⟩, rfl, hc, h⟩
    rw [List.getElem?_set_self (by omega)]
end
end ZL
-- ZL2
set_option Elab.async false
set_option linter.all false
set_option maxRecDepth 100000
set_option maxHeartbeats 2000000
/-! Layer ZL, part 2: the words of an exception: [word for word, good in .. if good]. -/
namespace ZL
open PySem PySem.Spec PyProof.Rows L2 LamX
def sel {α : Type} : List (α × Bool) → List α
  | [] => []
  | (x, true) :: r => x :: sel r
  | (_, false) :: r => sel r
theorem sel_snoc {α : Type} (x : α) (b : Bool) : ∀ r : List (α × Bool), sel (r ++ [(x, b)]) = sel r ++ (if b = true then [x] else [])
  | [] => by cases b <;> rfl
  | (y, true) :: r => by
    show y :: sel (r ++ [(x, b)]) = y :: sel r ++ _
    rw [sel_snoc x b r]
    rfl
  | (y, false) :: r => by
    show sel (r ++ [(x, b)]) = sel r ++ _
    rw [sel_snoc x b r]
theorem sel_le {α : Type} : ∀ r : List (α × Bool), (sel r).length ≤ r.length
  | [] => Nat.le_refl _
  | (_, true) :: r => by
    show (sel r).length + 1 ≤ r.length + 1
    have := sel_le r
    omega
  | (_, false) :: r => by
    show (sel r).length ≤ r.length + 1
    have := sel_le r
    omega
theorem Grows.refl (H : Hp) : Grows H H := fun _ _ e => e
theorem Grows.trans {a b c : Hp} (h : Grows a b) (k : Grows b c) : Grows a c := fun x o e => k x o (h x o e)
/-- what the walked thing gives: pairs of a text and a bool -/
structure Pairs (J : It) (H1 : Hp) (ps : List (Str × Bool)) : Prop where
  go : ∀ i H', Grows H1 H' → i < ps.length → J.go i H'
  stop : ∀ i H', Grows H1 H' → ps.length ≤ i → J.stop i H'
  yld : ∀ i H' x H'' w b, Grows H1 H' → ps[i]? = some (w, b) → J.yld i H' x H'' → ∃ T, x = .ref T ∧ Grows H' H'' ∧ H'' T = some (.tup [.str w, .bl b])
/-- [word for word, good in J if good] -/
theorem lcSel {K : PySem.W.Frag} {J : It} {H1 : Hp} {ps : List (Str × Bool)} {Q : VK} {σ : L2.St} {i j : Nat} (P : Pairs J H1 ps) (hn : ps.length ≤ 1000) (hi : i < σ.length) (hj : j < σ.length) (hij : i ≠ j)
    (hQ : ∀ D H', H1 D = none → Grows H1 H' → H' D = some (.lst ((sel ps).map V.str)) → Q (.ref D) H') : ∀ D, H1 D = none → ∃ W : Nat → Nat → Hp → Prop, (∃ m, W 0 m (upd H1 D (.lst []))) ∧ ∀ k m H, W k m H →
  (J.stop k H ∧ Q (.ref D) H) ∨ (J.go k H ∧ ∃ Nx : Hp → Prop, (∀ H', Nx H' → ∃ m', m' < m ∧ W (k + 1) m' H') ∧ ∀ x H', J.yld k H x H' → gTup K 2 (gCons (gName i) (gCons (gName j) gNil)) x (wipe σ [i, j]) H' fun σ2 H2 => wipe σ2 [i, j] = wipe σ [i, j] ∧ tB (tVar j) σ2 H2 fun b H3 =>
    if b = true then tVar i σ2 H3 fun y H4 => ∃ acc, H4 D = some (.lst acc) ∧ acc.length < sizeLine ∧ Nx (upd H4 D (.lst (acc ++ [y]))) else Nx H3) := by
  intro D hD
  have grow0 : ∀ {H' : Hp} {o : HO}, Grows H1 H' → Grows H1 (upd H' D o) := fun g b u e => by
    rw [upd_ne (ne_of_none e hD)]
    exact g b u e
  refine ⟨fun k m H => k ≤ ps.length ∧ m = ps.length - k ∧ Grows H1 H ∧ H D = some (.lst ((sel (ps.take k)).map V.str)), ⟨ps.length, Nat.zero_le _, rfl, grow0 (Grows.refl _), by rw [upd_same]; rfl⟩, ?_⟩
  rintro k m H ⟨hk, hm, g, hH⟩
  by_cases hl : k < ps.length
  · right
    refine ⟨P.go k H g hl, fun H' => ∃ m', m' < m ∧ (k + 1 ≤ ps.length ∧ m' = ps.length - (k + 1) ∧ Grows H1 H' ∧ H' D = some (.lst ((sel (ps.take (k + 1))).map V.str))), fun _ q => q, fun x H' y => ?_⟩
    obtain ⟨T, rfl, g2, hT⟩ := P.yld k H x H' ps[k].1 ps[k].2 g (by rw [List.getElem?_eq_getElem hl]) y
    have g3 := g.trans g2
    have hD2 := g2 D _ hH
    have et : ps.take (k + 1) = ps.take k ++ [(ps[k].1, ps[k].2)] := by
      rw [List.take_succ_eq_append_getElem hl]
    refine ⟨T, [.str ps[k].1, .bl ps[k].2], rfl, SqT.of hT, rfl, ?_⟩
    refine ⟨.str ps[k].1, [.bl ps[k].2], rfl, .bl ps[k].2, [], rfl, rfl, ?_, ?_⟩
    · have w1 : ∀ (τ : L2.St) (x y : Option V), wipe ((τ.set i x).set j y) [i, j] = wipe τ [i, j] := fun τ x y => by
        show ((((τ.set i x).set j y).set j none).set i none) = ((τ.set j none).set i none)
        rw [List.set_set, List.set_comm _ _ hij, List.set_set, List.set_comm _ _ hij.symm]
      rw [w1]
      show ((((σ.set j none).set i none).set j none).set i none) = ((σ.set j none).set i none)
      have e1 : (σ.set j none).set i none = (σ.set i none).set j none := List.set_comm none none hij.symm
      rw [e1, List.set_set, ← e1, List.set_set]
    · have lj : (((wipe σ [i, j]).set i (some (V.str ps[k].1))).set j (some (V.bl ps[k].2)))[j]? = some (some (V.bl ps[k].2)) := by
        rw [List.getElem?_set_self]
        rw [List.length_set, wipe_length]
        exact hj
      have li : (((wipe σ [i, j]).set i (some (V.str ps[k].1))).set j (some (V.bl ps[k].2)))[i]? = some (some (V.str ps[k].1)) := by
        rw [List.getElem?_set_ne hij.symm, List.getElem?_set_self]
        rw [wipe_length]
        exact hi
      refine ⟨.bl ps[k].2, lj, ps[k].2, rfl, ?_⟩
      cases hb : ps[k].2 with
      | true =>
        rw [if_pos rfl]
        refine ⟨.str ps[k].1, by rw [← hb]; exact li, (sel (ps.take k)).map V.str, hD2, ?_, ps.length - (k + 1), by omega, hl, rfl, grow0 g3, ?_⟩
        · rw [List.length_map, sizeLine_eq]
          have := sel_le (ps.take k)
          have h2 : (ps.take k).length ≤ ps.length := by rw [List.length_take]; omega
          omega
        · rw [upd_same, et, sel_snoc, hb]
          simp
      | false =>
        rw [if_neg (by decide)]
        refine ⟨ps.length - (k + 1), by omega, hl, rfl, g3, ?_⟩
        rw [hD2, et, sel_snoc, hb]
        simp
  · left
    have e : ps.length ≤ k := by omega
    refine ⟨P.stop k H g e, hQ D H hD g ?_⟩
    rw [List.take_of_length_le e] at hH
    exact hH
/-- zip of two lists -/
theorem pairs_zip {K : PySem.W.Frag} {l b : Addr} {H1 : Hp} {ws : List Str} {bs : List Bool} (hl : H1 l = some (.lst (ws.map V.str))) (hb : H1 b = some (.lst (bs.map V.bl))) : Pairs (Itz K l b) H1 (ws.zip bs) := by
  refine ⟨fun i H' g hi => ?_, fun i H' g hi => ?_, fun i H' x H'' w c g e y => ?_⟩
  · rw [List.length_zip] at hi
    refine ⟨_, _, .str ws[i], .bl bs[i], SqL.of (g _ _ hl), SqL.of (g _ _ hb), ?_, ?_⟩
    · rw [List.getElem?_map, List.getElem?_eq_getElem (by omega)]
      rfl
    · rw [List.getElem?_map, List.getElem?_eq_getElem (by omega)]
      rfl
  · rw [List.length_zip] at hi
    refine ⟨_, _, SqL.of (g _ _ hl), SqL.of (g _ _ hb), ?_⟩
    rw [List.length_map, List.length_map]
    omega
  · obtain ⟨T, u, v, rfl, hT, rfl, y1, y2⟩ := y
    have z1 := y1 _ (SqL.of (g _ _ hl))
    have z2 := y2 _ (SqL.of (g _ _ hb))
    rw [List.getElem?_zip_eq_some] at e
    rw [List.getElem?_map, e.1] at z1
    rw [List.getElem?_map, e.2] at z2
    cases z1
    cases z2
    exact ⟨T, rfl, grows_upd hT, upd_same⟩
/-- a list of one pair -/
theorem pairs_one {K : PySem.W.Frag} {l T : Addr} {H1 : Hp} {w : Str} {b : Bool} (hl : H1 l = some (.lst [.ref T])) (hT : H1 T = some (.tup [.str w, .bl b])) : Pairs (Itl K l) H1 [(w, b)] := by
  refine ⟨fun i H' g hi => ?_, fun i H' g hi => ?_, fun i H' x H'' w' c g e y => ?_⟩
  · have : i = 0 := by simpa using hi
    subst this
    exact ⟨_, .ref T, SqL.of (g _ _ hl), rfl⟩
  · exact ⟨_, SqL.of (g _ _ hl), hi⟩
  · obtain ⟨rfl, y⟩ := y
    have := y _ (SqL.of (g _ _ hl))
    cases i with
    | zero =>
      cases e
      cases this
      exact ⟨T, rfl, Grows.refl _, g _ _ hT⟩
    | succ i => simp at e
end ZL
-- ZL3
set_option Elab.async false
set_option linter.all false
set_option maxRecDepth 100000
set_option maxHeartbeats 4000000
/-! Layer ZL, part 3: the law's _law_errors. -/
namespace ZL
open PySem PySem.Spec PyProof.Rows L2 LamX
/-- isinstance(e, x) -/
def isC (P : Nat → Pos) (n : Nat) (x : Str) : Expr := .Call (.Name "isinstance" (P n)) [.Name "e" (P (n + 1)), .Name x (P (n + 2))] [] (P (n + 3))
def isL (P : Nat → Pos) : Nat → List Str → List Expr
  | _, [] => []
  | n, x :: r => isC P n x :: isL P (n + 4) r
def c1 : List Str := ["CannotConvert", "Conflict", "InvalidApp", "InvalidColumns"]
def c2 : List Str := ["InvalidData", "InvalidNames", "InvalidNumber"]
def c3 : List Str := ["InvalidRow", "InvalidRows", "InvalidSchema"]
def c4 : List Str := ["InvalidScript", "InvalidStep", "InvalidTable"]
def c5 : List Str := ["InvalidType", "InvalidValue", "InvalidWish"]
def c6 : List Str := ["LosesData", "NothingToUndo", "StepFails", "TooMany"]
def cAll : List Str := c1 ++ c2 ++ c3 ++ c4 ++ c5 ++ c6
def w1 : Str := "convert conflict app columns data names number row rows schema script step table kind value"
def w2 : Str := " wish loses undo fails many"
def addS (P : Nat → Pos) (n : Nat) (cs : List Str) : Stmt := .Assign [.Name "some" (P n)] (.BinOp (.Name "some" (P (n + 1))) .Add (.List (isL P (n + 5) cs) (P (n + 2))) (P (n + 3))) (P (n + 4))
def tgt (P : Nat → Pos) (n : Nat) : Expr := .Tuple [.Name "word" (P n), .Name "good" (P (n + 1))] 0 (P (n + 2))
def errBody (P : Nat → Pos) (sc1 sc2 : Scope) : List Stmt :=
  [.Assign [.Name "some" (P 0)] (.List (isL P 5 c1) (P 1)) (P 2), addS P 40 c2, addS P 80 c3, addS P 120 c4, addS P 160 c5, addS P 200 c6,
   .Assign [.Name "words" (P 240)] (.Constant (.str w1) 0 (P 241)) (P 242),
   .Assign [.Name "words" (P 243)] (.BinOp (.Name "words" (P 244)) .Add (.Constant (.str w2) 0 (P 245)) (P 246)) (P 247),
   .Assign [.Name "found" (P 248)] (.ListComp (.Name "word" (P 249)) [⟨tgt P 250, .Call (.Name "zip" (P 253)) [.Call (.Attribute (.Name "words" (P 254)) "split" (P 255)) [.Constant (.str " ") 0 (P 256)] [] (P 257), .Name "some" (P 258)] [] (P 259), [.Name "good" (P 260)], 0⟩] sc1 (P 261)) (P 262),
   .Return (some (.Call (.Attribute (.Constant (.str " ") 0 (P 263)) "join" (P 264)) [.BinOp (.Name "found" (P 265)) .Add
      (.ListComp (.Name "word" (P 266)) [⟨tgt P 267, .List [.Tuple [.Constant (.str "base") 0 (P 270), isC P 271 "ValueError"] 0 (P 275)] (P 276), [.Name "good" (P 277)], 0⟩] sc2 (P 278)) (P 279)] [] (P 280))) (P 281)]
def eN : List Str := ["e", "some", "words", "found", "word", "good"]
/-- the scope of its two comprehensions -/
def scOk (sg sc : Scope) : Bool := blkC eN sg sc [("word", 4), ("good", 5)] && decide (sc.names.lookup ("word" : Str) = some .local) && decide (sc.names.lookup ("good" : Str) = some .local)
def errWords (bs : List Bool) : Str := Txt.join " " (sel ((Txt.split (w1 ++ w2) " ").zip bs) ++ (["base"] : List Str))
/-- the value is a bool, whatever stands -/
def tIs (a : Addr) (b : Bool) : TE := fun σ H Q => σ[0]? = some (some (.ref a)) ∧ Q (.bl b) H
section
variable {X : Cx} {p : Addr × Obj} {D : Addr} {P : Nat → Pos}
structure ErrX (X : Cx) (p : Addr × Obj) (D : Addr) (cls : Str → Addr) (bD : Str → Bool) : Prop where
  N : X.N = eN
  hot : L2H.Hot1 X.A p
  pin : p ∈ X.pn
  exC : ExcC X.K D
  hz : Zc (.ref D) none p.2
  hf : ∃ vs, p.2.data = .fields vs
  loc : ∀ x ∈ eN, x ∉ (["word", "good"] : List Str) → X.env.scope.names.lookup x = some .local
  gl : ∀ x ∈ (["isinstance", "zip", "ValueError"] : List Str) ++ cAll, X.env.scope.names.lookup x = some .globalImplicit
  free : X.mg "isinstance" = none ∧ X.mg "zip" = none ∧ X.mg "ValueError" = none
  cls : ∀ x ∈ cAll, X.mg x = some (.ref (cls x)) ∧ PySem.W.kitOne X.K (.ref D) (.ref (cls x)) = some (bD x)
  ve : PySem.W.kitOne X.K (.ref D) (.type "ValueError") = some true
variable {cls : Str → Addr} {bD : Str → Bool}
theorem ErrX.nd (G : ErrX X p D cls bD) : X.N.Nodup := by
  rw [G.N]
  decide +kernel
theorem ErrX.slot (G : ErrX X p D cls bD) {i : Nat} {x : Str} (h : eN[i]? = some x) : X.N[i]? = some x := by
  rw [G.N]
  exact h
theorem ErrX.pe (G : ErrX X p D cls bD) {i : Nat} {x : Str} {pos : Pos} (h : eN[i]? = some x) (hx : x ∉ (["word", "good"] : List Str)) (hd : (x == ("__debug__" : Str)) = false) (hcd : (x == ("__classdict__" : Str)) = false) : PE X (.Name x pos) (tVar i) :=
  pe_var (G.slot h) (.inl (G.loc x (List.mem_of_getElem? h) hx)) hd hcd
theorem isC_ok (G : ErrX X p D cls bD) {n : Nat} {x : Str} (hx : x ∈ cAll) : PE X (isC P n x) (tIs p.1 (bD x)) := by
  obtain ⟨m1, m2⟩ := G.cls x hx
  have hdb : (x == ("__debug__" : Str)) = false := by
    have : ∀ y ∈ cAll, (y == ("__debug__" : Str)) = false := by decide +kernel
    exact this x hx
  refine (pe_callB (ZH.call_isEp G.exC G.pin G.hz G.hf) (G.gl _ (by decide +kernel)) G.free.1 (by decide +kernel) (pa_cons (G.pe (i := 0) rfl (by decide +kernel) (by decide) (by decide)) (pa_cons (pe_glob (v := .ref (cls x)) (G.gl x (List.mem_append_right _ hx)) m1 rfl hdb) pa_nil))).imp fun σ H Q ⟨h1, q⟩ => ?_
  exact ⟨.ref p.1, h1, .ref (cls x), .ref (cls x), bD x, rfl, fun u hu => hu, m2, q⟩
theorem isV_ok (G : ErrX X p D cls bD) {n : Nat} : PE X (isC P n "ValueError") (tIs p.1 true) := by
  refine (pe_callB (ZH.call_isEp G.exC G.pin G.hz G.hf) (G.gl _ (by decide +kernel)) G.free.1 (by decide +kernel) (pa_cons (G.pe (i := 0) rfl (by decide +kernel) (by decide) (by decide)) (pa_cons (pe_bltn (v := .ty "ValueError") (u := .type "ValueError") (G.gl "ValueError" (by decide +kernel)) G.free.2.2 (by decide +kernel) rfl (by decide) (by decide)) pa_nil))).imp fun σ H Q ⟨h1, q⟩ => ?_
  exact ⟨.ref p.1, h1, .ty "ValueError", .type "ValueError", true, rfl, fun u hu => hu, G.ve, q⟩
theorem isL_ok (G : ErrX X p D cls bD) : ∀ (xs : List Str) (n : Nat), (∀ x ∈ xs, x ∈ cAll) → PA X (isL P n xs) (fun σ H Q => σ[0]? = some (some (.ref p.1)) ∧ Q (xs.map fun x => V.bl (bD x)) H)
  | [], n, _ => pa_nil.imp fun σ H Q q => q.2
  | x :: r, n, h => by
    have ih := isL_ok G r (n + 4) fun y hy => h y (List.mem_cons_of_mem _ hy)
    refine (pa_cons (isC_ok G (n := n) (h x (List.mem_cons_self ..))) ih rfl).imp fun σ H Q ⟨h1, q⟩ => ?_
    exact ⟨h1, h1, q⟩
theorem lst_ok (G : ErrX X p D cls bD) {xs : List Str} {n : Nat} {pos : Pos} (h : ∀ x ∈ xs, x ∈ cAll) (hl : xs.length ≤ 1000) : PE X (.List (isL P n xs) pos) (fun σ H Q => σ[0]? = some (some (.ref p.1)) ∧ ∀ q, H q = none → Q (.ref q) (upd H q (.lst ((xs.map bD).map V.bl)))) := by
  refine (pe_lst (isL_ok G xs n h)).imp fun σ H Q ⟨h1, q⟩ => ⟨h1, ?_, fun l hn => ?_⟩
  · rw [List.length_map, sizeLine_eq]
    omega
  · have := q l hn
    rw [List.map_map] at this
    exact this
/-- some = some + [..] -/
theorem add_ok (G : ErrX X p D cls bD) {xs : List Str} {n : Nat} (h : ∀ x ∈ xs, x ∈ cAll) (hl : xs.length ≤ 10) : PS X (addS P n xs) (fun Dn σ H => ∃ a bs, σ[0]? = some (some (.ref p.1)) ∧ σ[1]? = some (some (.ref a)) ∧ H a = some (.lst (bs.map V.bl)) ∧ bs.length ≤ 100 ∧
    ∀ a' H', Grows H H' → H' a' = some (.lst ((bs ++ xs.map bD).map V.bl)) → Dn.nx (σ.set 1 (some (.ref a'))) H') := by
  refine (ps_set (i := 1) G.nd (G.slot rfl) (.inl (G.loc "some" (by decide +kernel) (by decide +kernel))) (pe_op op_cat (G.pe (i := 1) rfl (by decide +kernel) (by decide) (by decide)) (lst_ok G h (by omega))) rfl (.inr (G.loc "some" (by decide +kernel) (by decide +kernel)))).imp fun Dn σ H ⟨a, bs, h0, h1, ha, hb, q⟩ => ?_
  refine ⟨.ref a, h1, h0, fun l hn => ⟨a, l, bs.map V.bl, (xs.map bD).map V.bl, rfl, rfl, ?_, upd_same, ?_, fun r hr => ?_⟩⟩
  · rw [upd_ne (ne_of_none ha hn)]
    exact ha
  · simp only [List.length_map]
    rw [sizeLine_eq]
    omega
  · refine q r _ ((grows_upd hn).trans (grows_upd hr)) ?_
    rw [upd_same, List.map_append]
end
end ZL
-- ZL4
set_option Elab.async false
set_option linter.all false
set_option maxRecDepth 100000
set_option maxHeartbeats 4000000
/-! Layer ZL, part 4: _law_errors, its comprehensions and its end. -/
namespace ZL
open PySem PySem.Spec PyProof.Rows L2 LamX
section
variable {X : Cx} {p : Addr × Obj} {D : Addr} {P : Nat → Pos} {cls : Str → Addr} {bD : Str → Bool}
def scOk2 (sg sc : Scope) : Bool := scOk sg sc && !(sc.names.any fun (n, k) => n == ("found" : Str) && (k == .local || k == .cell))
theorem blk_tgt (G : ErrX X p D cls bD) {sc : Scope} (h : scOk X.env.scope sc = true) {n : Nat} (s : Shared) (H : Hp) (C : Addr) (cl : List (Str × Addr)) (fp : List Addr) (q : Addr × Obj) (hc : L2H.HotC (ZH.blkH X s H sc (compEnvC sc cl C X.env) fp q)) :
    PG (ZH.blkH X s H sc (compEnvC sc cl C X.env) fp q) (tgt P n) (gTup X.K 2 (gCons (gName 4) (gCons (gName 5) gNil))) ∧
    PTs (ZH.blkH X s H sc (compEnvC sc cl C X.env) fp q) [.Name "good" (P (n + 10))] (tB (tVar 5)) ∧ (∀ pos : Pos, PTs (ZH.blkH X s H sc (compEnvC sc cl C X.env) fp q) [.Name "good" pos] (tB (tVar 5))) ∧ (∀ pos : Pos, PE (ZH.blkH X s H sc (compEnvC sc cl C X.env) fp q) (.Name "word" pos) (tVar 4)) := by
  unfold scOk at h
  simp only [Bool.and_eq_true, decide_eq_true_eq] at h
  have hw : (compEnvC sc cl C X.env).scope.names.lookup ("word" : Str) = some .local := lookup_relabel_local h.1.2
  have hg : (compEnvC sc cl C X.env).scope.names.lookup ("good" : Str) = some .local := lookup_relabel_local h.2
  have nd : (ZH.blkH X s H sc (compEnvC sc cl C X.env) fp q).N.Nodup := G.nd
  have s4 : (ZH.blkH X s H sc (compEnvC sc cl C X.env) fp q).N[4]? = some ("word" : Str) := G.slot rfl
  have s5 : (ZH.blkH X s H sc (compEnvC sc cl C X.env) fp q).N[5]? = some ("good" : Str) := G.slot rfl
  have pgood : ∀ pos : Pos, PTs (ZH.blkH X s H sc (compEnvC sc cl C X.env) fp q) [.Name "good" pos] (tB (tVar 5)) := fun pos => pts_one (pt_val (pe_var s5 (.inl hg)))
  exact ⟨ZH.pg_tupH hc (pgs_cons (pg_name nd s4 (.inl hw) (.inr hw)) (pgs_cons (pg_name nd s5 (.inl hg) (.inr hg)) pgs_nil)) rfl rfl, pgood _, pgood, fun pos => pe_var s4 (.inl hw)⟩
theorem blk_of (G : ErrX X p D cls bD) {sc : Scope} (h : scOk X.env.scope sc = true) : BlkOk X.N X.env.scope sc [(("word" : Str), 4), (("good" : Str), 5)] := by
  unfold scOk at h
  simp only [Bool.and_eq_true, decide_eq_true_eq] at h
  rw [G.N]
  exact blkOk_by h.1.1
theorem ErrX.hotc (G : ErrX X p D cls bD) : L2H.HotC X := ⟨p, G.hot, G.pin⟩
/-- found = [..] -/
theorem found_ok (G : ErrX X p D cls bD) {sc : Scope} (hk : X.env.scope.kind = .function) (h : scOk2 X.env.scope sc = true) (l1 : ((P 248).line == (P 261).line) = true) (l2 : ((P 255).endLine == (P 257).line) = true) :
    PS X (.Assign [.Name "found" (P 248)] (.ListComp (.Name "word" (P 249)) [⟨tgt P 250, .Call (.Name "zip" (P 253)) [.Call (.Attribute (.Name "words" (P 254)) "split" (P 255)) [.Constant (.str " ") 0 (P 256)] [] (P 257), .Name "some" (P 258)] [] (P 259), [.Name "good" (P 260)], 0⟩] sc (P 261)) (P 262))
    (fun Dn σ H => ∃ a bs w, σ.length = 6 ∧ σ[1]? = some (some (.ref a)) ∧ σ[2]? = some (some (.str w)) ∧ H a = some (.lst (bs.map V.bl)) ∧ w.length + 2 ≤ sizeLine ∧ ((Txt.split w " ").zip bs).length ≤ 1000 ∧
      ∀ a' H', Grows H H' → H' a' = some (.lst ((sel ((Txt.split w " ").zip bs)).map V.str)) → Dn.nx (σ.set 3 (some (.ref a'))) H') := by
  unfold scOk2 at h
  simp only [Bool.and_eq_true, Bool.not_eq_true'] at h
  have ok := blk_of G h.1
  have hs : PE X (.Call (.Attribute (.Name "words" (P 254)) "split" (P 255)) [.Constant (.str " ") 0 (P 256)] [] (P 257)) _ :=
    pe_bm PySem.F.plainAttrs_str PySem.F.slot_str_split PySem.F.type_str_split mt_split (G.pe (i := 2) rfl (by decide +kernel) (by decide) (by decide)) (pa_cons pe_str pa_nil) rfl rfl l2 rfl rfl
  have hi := ZH.pi_zipH (X := X) (p := P 253) (pos := P 259) (tpos := P 252) (elts := [.Name "word" (P 250), .Name "good" (P 251)]) (kk := 0) (G.gl "zip" (by decide +kernel)) G.free.2.1 (pa_cons hs (pa_cons (G.pe (i := 1) (x := "some") (pos := P 258) rfl (by decide +kernel) (by decide) (by decide)) pa_nil)) rfl rfl
  refine (ZH.ps_setLcH (i := 3) (own := [(("word" : Str), 4), (("good" : Str), 5)]) G.hotc G.nd (G.slot rfl) (G.loc "found" (by decide +kernel) (by decide +kernel)) (sw_true hk (G.loc "found" (by decide +kernel) (by decide +kernel)) l1 h.2) hi ok
    (fun s H C cl fp q hc => (blk_tgt (P := P) (n := 250) G h.1 s H C cl fp q hc).1) (fun s H C cl fp q hc => (blk_tgt (P := P) (n := 250) G h.1 s H C cl fp q hc).2.1) (fun s H C cl fp q hc => (blk_tgt (P := P) (n := 250) G h.1 s H C cl fp q hc).2.2.2 _) (fun _ => rfl)).imp fun Dn σ H ⟨a, bs, w, hl, h1, h2, ha, hw, hz, q⟩ => ?_
  refine ⟨.str w, h2, rfl, w, (" " : Str), rfl, rfl, rfl, hw, fun l hn => ⟨.ref a, h1, l, a, (Txt.split w " ").map V.str, bs.map V.bl, rfl, SqL.of upd_same, SqL.of (by rw [upd_ne (ne_of_none ha hn)]; exact ha), ?_⟩⟩
  exact lcSel (K := X.K) (Q := fun x H1 => gName 3 x σ H1 Dn.nx) (pairs_zip (K := X.K) upd_same (by rw [upd_ne (ne_of_none ha hn)]; exact ha)) hz (by omega) (by omega) (by decide) fun D' H' _ g hD' => q D' H' ((grows_upd hn).trans g) hD'
/-- return ' '.join(..) -/
theorem ret_ok (G : ErrX X p D cls bD) {sc : Scope} (h : scOk X.env.scope sc = true) (l2 : ((P 264).endLine == (P 280).line) = true) :
    PS X (.Return (some (.Call (.Attribute (.Constant (.str " ") 0 (P 263)) "join" (P 264)) [.BinOp (.Name "found" (P 265)) .Add
      (.ListComp (.Name "word" (P 266)) [⟨tgt P 267, .List [.Tuple [.Constant (.str "base") 0 (P 270), isC P 271 "ValueError"] 0 (P 275)] (P 276), [.Name "good" (P 277)], 0⟩] sc (P 278)) (P 279)] [] (P 280))) (P 281))
    (fun Dn σ H => ∃ a fs, σ.length = 6 ∧ σ[0]? = some (some (.ref p.1)) ∧ σ[3]? = some (some (.ref a)) ∧ H a = some (.lst (fs.map V.str)) ∧ fs.length ≤ 1000 ∧ (((fs ++ (["base"] : List Str)).map (·.length)).sum + (fs ++ (["base"] : List Str)).length * (" " : Str).length ≤ 16777216) ∧
      ∀ H', Grows H H' → Dn.rt (.str (Txt.join " " (fs ++ (["base"] : List Str)))) H') := by
  have ok := blk_of G h
  have hit := ZH.pi_listH (X := X) (tg := tgt P 267) (pe_lst (pos := P 276) (pa_cons (pe_tup (x1 := 0) (pos := P 275) (pa_cons (pe_str (x := "base") (j := 0) (pos := P 270)) (pa_cons (isV_ok (P := P) (n := 271) G) pa_nil))) pa_nil))
  have hlc := ZH.pe_lcH (pos := P 278) (own := [(("word" : Str), 4), (("good" : Str), 5)]) G.hotc G.nd hit ok
    (fun s H C cl fp q hc => (blk_tgt (P := P) (n := 267) G h s H C cl fp q hc).1) (fun s H C cl fp q hc => (blk_tgt (P := P) (n := 267) G h s H C cl fp q hc).2.1) (fun s H C cl fp q hc => (blk_tgt (P := P) (n := 267) G h s H C cl fp q hc).2.2.2 (P 266)) (fun _ => rfl)
  refine (ps_ret (pos := P 281) (pe_bm (cpos := P 280) (apos := P 264) PySem.F.plainAttrs_str PySem.F.slot_str_join PySem.F.type_str_join mt_join (pe_str (x := " ") (j := 0) (pos := P 263)) (pa_cons (pe_op (pos := P 279) op_cat (G.pe (i := 3) (x := "found") (pos := P 265) rfl (by decide +kernel) (by decide) (by decide)) hlc) pa_nil) rfl rfl l2 rfl rfl)).imp fun Dn σ H ⟨a, fs, hl, h0, h3, ha, hf, hz, q⟩ => ?_
  refine ⟨rfl, .ref a, h3, h0, by show 2 ≤ sizeLine; rw [sizeLine_eq]; omega, fun T hT => ⟨by show 1 ≤ sizeLine; rw [sizeLine_eq]; omega, fun l hl' => ⟨l, rfl, ⟨_, SqL.of upd_same⟩, ?_⟩⟩⟩
  have nT : T ≠ l := ne_of_none (by rw [upd_same]) hl'
  refine lcSel (K := X.K) (σ := σ) (i := 4) (j := 5) (Q := fun y H2 => rCat (V.ref a) y H2 fun x H1 => ∃ aa pp, ∃ ys : List Str, V.str " " = V.str aa ∧ [x] = [V.ref pp] ∧ (SqL X.K H1 pp (ys.map V.str) ∨ SqT X.K H1 pp (ys.map V.str)) ∧ (ys.map (·.length)).sum + ys.length * aa.length ≤ 16777216 ∧ Dn.rt (.str (Txt.join aa ys)) H1) (pairs_one (K := X.K) (H1 := upd (upd H T (.tup [.str "base", .bl true])) l (.lst [.ref T])) (l := l) (T := T) (w := "base") (b := true) upd_same ((upd_ne nT).trans upd_same)) (by decide) (by omega) (by omega) (by decide) fun D' H' hD g hD' => ?_
  have g0 : Grows H H' := ((grows_upd hT).trans (grows_upd hl')).trans g
  refine ⟨a, D', fs.map V.str, [V.str "base"], rfl, rfl, g0 _ _ ha, hD', ?_, fun r hr => ?_⟩
  · rw [List.length_map, sizeLine_eq]
    show fs.length + 1 ≤ _
    omega
  · refine ⟨" ", r, fs ++ (["base"] : List Str), rfl, rfl, .inl (SqL.of ?_), hz, q _ (g0.trans (grows_upd hr))⟩
    rw [upd_same, List.map_append]
    rfl
end
end ZL
-- ZL5
set_option Elab.async false
set_option linter.all false
set_option maxRecDepth 100000
set_option maxHeartbeats 4000000
/-! Layer ZL, part 5: _law_errors, all of it. -/
namespace ZL
open PySem PySem.Spec PyProof.Rows L2 LamX
theorem sel_sum : ∀ ps : List (Str × Bool), ((sel ps).map (·.length)).sum ≤ (ps.map (·.1.length)).sum
  | [] => Nat.le_refl _
  | (x, true) :: r => by
    show x.length + ((sel r).map (·.length)).sum ≤ x.length + (r.map (·.1.length)).sum
    have := sel_sum r
    omega
  | (x, false) :: r => by
    show ((sel r).map (·.length)).sum ≤ x.length + (r.map (·.1.length)).sum
    have := sel_sum r
    omega
theorem zip_sum : ∀ (ws : List Str) (bs : List Bool), ((ws.zip bs).map (·.1.length)).sum ≤ (ws.map (·.length)).sum
  | [], _ => by simp
  | _ :: _, [] => by simp
  | w :: ws, b :: bs => by
    show w.length + ((ws.zip bs).map (·.1.length)).sum ≤ w.length + (ws.map (·.length)).sum
    have := zip_sum ws bs
    omega
theorem words_small : ((Txt.split (w1 ++ w2) " ").map (·.length)).sum ≤ 1000 ∧ (Txt.split (w1 ++ w2) " ").length ≤ 100 ∧ w1.length ≤ 1000 ∧ w2.length ≤ 1000 ∧ (w1 ++ w2).length ≤ 1000 ∧ ("base" : Str).length = 4 ∧ (" " : Str).length = 1 := by decide +kernel
theorem end_small (bs : List Bool) : ((sel ((Txt.split (w1 ++ w2) " ").zip bs) ++ (["base"] : List Str)).map (·.length)).sum + (sel ((Txt.split (w1 ++ w2) " ").zip bs) ++ (["base"] : List Str)).length * (" " : Str).length ≤ 16777216 ∧ (sel ((Txt.split (w1 ++ w2) " ").zip bs)).length ≤ 1000 ∧ ((Txt.split (w1 ++ w2) " ").zip bs).length ≤ 1000 := by
  obtain ⟨h1, h2, _, _, _, h6, h7⟩ := words_small
  have a1 := sel_sum ((Txt.split (w1 ++ w2) " ").zip bs)
  have a2 := zip_sum (Txt.split (w1 ++ w2) " ") bs
  have a3 := sel_le ((Txt.split (w1 ++ w2) " ").zip bs)
  have a4 : ((Txt.split (w1 ++ w2) " ").zip bs).length ≤ (Txt.split (w1 ++ w2) " ").length := by
    rw [List.length_zip]
    omega
  simp only [List.map_append, List.sum_append, List.length_append, List.map_cons, List.map_nil, List.sum_cons, List.sum_nil, List.length_cons, List.length_nil]
  rw [h6, h7]
  omega
section
variable {X : Cx} {p : Addr × Obj} {D : Addr} {P : Nat → Pos} {cls : Str → Addr} {bD : Str → Bool}
theorem sub_all {xs : List Str} (h : (xs.all fun x => cAll.contains x) = true) : ∀ x ∈ xs, x ∈ cAll := fun x hx => by
  have := List.all_eq_true.mp h x hx
  exact List.contains_iff_mem.mp this
/-- the body, from its start -/
theorem body_ok (G : ErrX X p D cls bD) {sc1 sc2 : Scope} (hk : X.env.scope.kind = .function) (h1 : scOk2 X.env.scope sc1 = true) (h2 : scOk X.env.scope sc2 = true) (l1 : ((P 248).line == (P 261).line) = true) (l2 : ((P 255).endLine == (P 257).line) = true) (l3 : ((P 264).endLine == (P 280).line) = true) :
    PSs X (errBody P sc1 sc2) (fun Dn σ H => σ = [some (.ref p.1), none, none, none, none, none] ∧ ∀ H', Grows H H' → Dn.rt (.str (errWords (cAll.map bD))) H') := by
  have lo := fun (x : Str) (a : x ∈ eN) (b : x ∉ (["word", "good"] : List Str)) => G.loc x a b
  have s0 := ps_set (i := 1) (pos' := P 0) (pos := P 2) G.nd (G.slot rfl) (.inl (lo "some" (by decide +kernel) (by decide +kernel))) (lst_ok (P := P) (n := 5) (pos := P 1) (xs := c1) G (sub_all (by decide +kernel)) (by decide)) rfl (.inr (lo "some" (by decide +kernel) (by decide +kernel)))
  have s6 := ps_set (i := 2) (x := "words") (pos' := P 240) (pos := P 242) G.nd (G.slot rfl) (.inl (lo "words" (by decide +kernel) (by decide +kernel))) (pe_str (x := w1) (j := 0) (pos := P 241)) rfl (.inr (lo "words" (by decide +kernel) (by decide +kernel)))
  have s7 := ps_set (i := 2) (x := "words") (pos' := P 243) (pos := P 247) G.nd (G.slot rfl) (.inl (lo "words" (by decide +kernel) (by decide +kernel))) (pe_op (pos := P 246) op_add_str (G.pe (i := 2) (x := "words") (pos := P 244) rfl (by decide +kernel) (by decide) (by decide)) (pe_str (x := w2) (j := 0) (pos := P 245))) rfl (.inr (lo "words" (by decide +kernel) (by decide +kernel)))
  refine (pss_cons s0 (pss_cons (add_ok (P := P) (n := 40) (xs := c2) G (sub_all (by decide +kernel)) (by decide)) (pss_cons (add_ok (P := P) (n := 80) (xs := c3) G (sub_all (by decide +kernel)) (by decide)) (pss_cons (add_ok (P := P) (n := 120) (xs := c4) G (sub_all (by decide +kernel)) (by decide))
    (pss_cons (add_ok (P := P) (n := 160) (xs := c5) G (sub_all (by decide +kernel)) (by decide)) (pss_cons (add_ok (P := P) (n := 200) (xs := c6) G (sub_all (by decide +kernel)) (by decide)) (pss_cons s6 (pss_cons s7 (pss_cons (found_ok G hk h1 l1 l2) (pss_one (ret_ok G h2 l3))))))))))).imp fun Dn σ H ⟨e, q⟩ => ?_
  subst e
  obtain ⟨_, v2, v3, v4, v5, _, _⟩ := words_small
  obtain ⟨z1, z2, z3⟩ := end_small (cAll.map bD)
  refine ⟨rfl, fun a1 n1 => ?_⟩
  refine ⟨a1, c1.map bD, rfl, rfl, upd_same, by simp [c1], fun a2 H2 g2 e2 => ?_⟩
  refine ⟨a2, c1.map bD ++ c2.map bD, rfl, rfl, e2, by simp [c1, c2], fun a3 H3 g3 e3 => ?_⟩
  refine ⟨a3, (c1.map bD ++ c2.map bD) ++ c3.map bD, rfl, rfl, e3, by simp [c1, c2, c3], fun a4 H4 g4 e4 => ?_⟩
  refine ⟨a4, ((c1.map bD ++ c2.map bD) ++ c3.map bD) ++ c4.map bD, rfl, rfl, e4, by simp [c1, c2, c3, c4], fun a5 H5 g5 e5 => ?_⟩
  refine ⟨a5, (((c1.map bD ++ c2.map bD) ++ c3.map bD) ++ c4.map bD) ++ c5.map bD, rfl, rfl, e5, by simp [c1, c2, c3, c4, c5], fun a6 H6 g6 e6 => ?_⟩
  have eb : ((((c1.map bD ++ c2.map bD) ++ c3.map bD) ++ c4.map bD) ++ c5.map bD) ++ c6.map bD = cAll.map bD := by
    unfold cAll
    simp only [List.map_append]
  rw [eb] at e6
  refine ⟨.str w1, rfl, w1, w2, rfl, rfl, by rw [sizeLine_eq]; omega, ?_⟩
  refine ⟨a6, cAll.map bD, w1 ++ w2, rfl, rfl, rfl, e6, by rw [sizeLine_eq]; omega, z3, fun a7 H7 g7 e7 => ?_⟩
  refine ⟨a7, sel ((Txt.split (w1 ++ w2) " ").zip (cAll.map bD)), rfl, rfl, rfl, e7, z2, z1, fun H8 g8 => ?_⟩
  exact q H8 (((((((grows_upd n1).trans g2).trans g3).trans g4).trans g5).trans g6).trans (g7.trans g8))
end
end ZL
-- ZL6
set_option Elab.async false
set_option linter.all false
set_option maxRecDepth 100000
set_option maxHeartbeats 4000000
/-! Layer ZL, part 6: _law_errors as a def, called while the exception is handled. -/
namespace ZL
open PySem PySem.Spec PyProof.Rows L2 LamX
/-- what the text of _law_errors must be -/
structure ErrT (P : Nat → Pos) (sc1 sc2 scope : Scope) : Prop where
  S : FnScope eN ["e"] scope
  loc : ∀ x ∈ eN, x ∉ (["word", "good"] : List Str) → scope.names.lookup x = some .local
  gl : ∀ x ∈ (["isinstance", "zip", "ValueError"] : List Str) ++ cAll, scope.names.lookup x = some .globalImplicit
  h1 : scOk2 scope sc1 = true
  h2 : scOk scope sc2 = true
  l1 : ((P 248).line == (P 261).line) = true
  l2 : ((P 255).endLine == (P 257).line) = true
  l3 : ((P 264).endLine == (P 280).line) = true
def errTB (P : Nat → Pos) (sc1 sc2 scope : Scope) : Bool := decide (scope.kind = .function) && !scope.isCoroutine && !scope.isGenerator && decide eN.Nodup && decide (scope.names.lookup ("e" : Str) = some .local) && (scope.names.all fun y => decide (y.2 ≠ .free)) &&
  (eN.all fun x => (["word", "good"] : List Str).contains x || decide (scope.names.lookup x = some .local)) && (((["isinstance", "zip", "ValueError"] : List Str) ++ cAll).all fun x => decide (scope.names.lookup x = some .globalImplicit)) &&
  scOk2 scope sc1 && scOk scope sc2 && ((P 248).line == (P 261).line) && ((P 255).endLine == (P 257).line) && ((P 264).endLine == (P 280).line)
theorem errT_of {P : Nat → Pos} {sc1 sc2 scope : Scope} (h : errTB P sc1 sc2 scope = true) : ErrT P sc1 sc2 scope := by
  unfold errTB at h
  simp only [Bool.and_eq_true, decide_eq_true_eq, Bool.not_eq_true', List.all_eq_true, Bool.or_eq_true] at h
  obtain ⟨⟨⟨⟨⟨⟨⟨⟨⟨⟨⟨⟨a1, a2⟩, a3⟩, a4⟩, a5⟩, a6⟩, a7⟩, a8⟩, a9⟩, b1⟩, b2⟩, b3⟩, b4⟩ := h
  refine ⟨⟨a1, a2, a3, a4, rfl, fun x hx => ?_, a6⟩, fun x hx hn => ?_, a8, a9, b1, b2, b3, b4⟩
  · have : x = "e" := by simpa using hx
    rw [this]
    exact .inl a5
  · rcases a7 x hx with q | q
    · exact absurd (List.contains_iff_mem.mp q) hn
    · exact q
/-- the facts about the exceptions' classes: D the class that came -/
structure ErrK (K : PySem.W.Frag) (mg : Str → Option Value) (D : Addr) (cls : Str → Addr) (bD : Str → Bool) : Prop where
  exC : ExcC K D
  free : mg "isinstance" = none ∧ mg "zip" = none ∧ mg "ValueError" = none
  cls : ∀ x ∈ cAll, mg x = some (.ref (cls x)) ∧ PySem.W.kitOne K (.ref D) (.ref (cls x)) = some (bD x)
  ve : PySem.W.kitOne K (.ref D) (.type "ValueError") = some true
theorem err_fn {Pg : Program} {w : World} {K : PySem.W.Frag} {mg : Str → Option Value} {base : Heap} {P : Nat → Pos} {sc1 sc2 scope : Scope} {params : Arguments} {f D : Addr} {fd : FuncData} {cls : Str → Addr} {bD : Str → Bool} {k : Nat}
    (T : ErrT P sc1 sc2 scope) (F : FunD K "_law_errors" "_law_errors" params (errBody P sc1 sc2) scope [] [] f fd) (G : ErrK K mg D cls bD) {p : Addr × Obj} (hz : Zc (.ref D) none p.2) (hf : ∃ vs, p.2.data = .fields vs) :
    ZH.FnHp Pg w K mg base C8.CX0 (k + 1) f fd ["e"] p (spErr p (errWords (cAll.map bD))) := by
  obtain ⟨oc, od, dV, kV, doc, pm, an, cdv, ct, osl, rfl, lk, hcd, _, _⟩ := F.ex
  refine ZH.fn_ofHp (N := eN) lk hcd T.S (fun vs H Q E ⟨e, _⟩ => by rw [e]; rfl) fun A outer s H vs Q E hot hr ⟨e, q⟩ => ?_
  have X : ErrX (L2H.cxH C8.CX0 Pg w K mg base eN "_law_errors" scope f cdv A outer s H E p) p D cls bD :=
    ⟨rfl, hot, List.mem_singleton.mpr rfl, G.exC, hz, hf, T.loc, T.gl, G.free, G.cls, G.ve⟩
  refine ⟨_, body_ok X T.S.kind T.h1 T.h2 T.l1 T.l2 T.l3, ?_⟩
  subst e
  exact ⟨rfl, q⟩
end ZL
-- ZM0
set_option Elab.async false
set_option linter.all false
set_option maxRecDepth 100000
set_option maxHeartbeats 2000000
/-! Layer Z, part 26: _law_outcome(lambda: e). -/
namespace Z
open PySem PySem.Spec PyProof.Rows L2
section
variable {W : Sta} {z : Zn} {h : AH} {H H' : Hp}
theorem plain_ne {o : HO} (p : plainO o = true) : ∀ ps, o ≠ .tbl ps := fun ps e => by
  rw [e] at p
  cases p
theorem noTbl_ne {o : HO} (p : noTbl o = true) : ∀ ps, o ≠ .tbl ps := fun ps e => by
  rw [e] at p
  cases p
theorem RMO.extN {a : Addr} (e : LamX.ExtN H H') : ∀ {m : MO}, RMO W z H a m → RMO W z H' a m
  | .lst xs, r => by
    obtain ⟨vs, q, r⟩ := r
    exact ⟨vs, e _ _ q (plain_ne rfl), r⟩
  | .dct ks vs, r => by
    obtain ⟨kvs, q, r⟩ := r
    exact ⟨kvs, e _ _ q (plain_ne rfl), r⟩
  | .ins c ns vs, r => by
    obtain ⟨dx, fs, q, r⟩ := r
    exact ⟨dx, fs, e _ _ q (plain_ne rfl), r⟩
theorem RH.extN (R : RH W z h H) (e : LamX.ExtN H H') (t : LamX.Tabs W.T H') : RH W z h H' :=
  ⟨fun a o q => e a o (R.fz a o q) (noTbl_ne (R.pl a o q)), R.pl, R.len, fun i m a e1 e2 => RMO.extN e (R.mo i m a e1 e2), R.nd, R.dis, t, fun a o q =>
    let ⟨r1, r2, r3, r4⟩ := R.rs a o q
    ⟨e a o r1 (plain_ne r4), r2, r3, r4⟩⟩
theorem RH.grow (R : RH W z h H) (g : ZL.Grows H H') : RH W z h H' := R.extN (fun b o e _ => g b o e) (R.tab.ext g)
theorem sV : (Str.ofString "value" : Str) = toS sValue := by decide +kernel
theorem sE : (Str.ofString "error" : Str) = toS sError := by decide +kernel
end
section
variable {X : Cx} {W : Sta} {E : XK} {C : Ctx} {pos : Pos}
/-- the words that the evaluator tells of a class are those of the law -/
structure WordOk (X : Cx) (W : Sta) (C : Ctx) (CS CF : Addr) (word : Addr → Option Str) : Prop where
  ok : ∀ c u, C.word c = some u → PySem.W.exmOne X.K (.ref (W.xa c)) (.ref CS) = some true ∧ PySem.W.kitOne X.K (.ref (W.xa c)) (.ref CF) = some false ∧ word (W.xa c) = some (toS u) ∧ okS u = true ∧ u.length ≤ 1000
/-- what the evaluator says is what _law_outcome does -/
theorem outc_read {body' : Z.E} {CS CF : Addr} {word : Addr → Option Str} (hw : WordOk X W C CS CF word) (σ : L2.St) {H1 : Hp} {Q : VK} (q : ∃ z ρ h, RE W z ρ σ ∧ RH W z h H1 ∧ Post W z E (outc C (evE C body' ρ h)) (KV W Q)) :
    ZL.TTo X.K CS CF word (fun E' H' Q' => tE W E' (evE C body') σ H' Q') H1 Q := by
  obtain ⟨z, ρ, h, re, R1, p⟩ := q
  refine ⟨z, ρ, h, re, R1, ?_⟩
  have okv : ∀ z' : Zn, RV W z' (.str sValue) (.str "value") := fun z' => ⟨by rw [← sV], by rw [sizeLine_eq]; decide, by decide⟩
  have oke : ∀ z' : Zn, RV W z' (.str sError) (.str "error") := fun z' => ⟨by rw [← sE], by rw [sizeLine_eq]; decide, by decide⟩
  cases ev : evE C body' ρ h with
  | stuck =>
    rw [ev] at p
    exact p
  | ok v h1 =>
    rw [ev] at p
    intro z1 H2 l1 R2 v' rv
    refine ⟨by show 2 ≤ sizeLine; rw [sizeLine_eq]; omega, fun a n => ?_⟩
    exact newT R2 (RVs.cons (okv z1) (RVs.cons rv RVs.nil)) (Post.mono l1 p) a n
  | exc x h1 =>
    rw [ev] at p
    unfold outc at p
    simp only at p
    cases ew : C.word x.c with
    | none =>
      rw [ew] at p
      exact p.elim
    | some u =>
      rw [ew] at p
      cases en : x.n with
      | some _ =>
        rw [en] at p
        exact p.elim
      | none =>
        rw [en] at p
        obtain ⟨w1, w2, w3, w4, w5⟩ := hw.ok x.c u ew
        intro z1 cls d H2 l1 rx R2
        obtain ⟨rfl, rd⟩ := rx
        rw [en] at rd
        have rd : d = none := rd
        refine ⟨W.xa x.c, toS u, rfl, rd, w1, w2, w3, fun H3 g a n => ?_⟩
        have ru : RV W z1 (.str u) (.str (toS u)) := ⟨rfl, by rw [sizeLine_eq]; omega, w4⟩
        have rn : RV W z1 .non .non := rfl
        exact newT (R2.grow g) (RVs.cons (oke z1) (RVs.cons ru (RVs.cons rn RVs.nil))) (Post.mono l1 p) a n
theorem lam_read {body' : Z.E} {CS CF : Addr} {word : Addr → Option Str} (hw : WordOk X W C CS CF word) {σ : L2.St} {H H1 : Hp} {Q : VK} (e : LamX.ExtN H H1) (t : LamX.Tabs W.T H1) (q : tE W E (evE C (.lam body')) σ H Q) :
    ZL.TTo X.K CS CF word (fun E' H' Q' => tE W E' (evE C body') σ H' Q') H1 Q := by
  obtain ⟨z, ρ, h, re, rh, p⟩ := q
  exact outc_read hw σ ⟨z, ρ, h, re, rh.extN e t, p⟩
end
end Z
-- ZL7
set_option Elab.async false
set_option linter.all false
set_option maxRecDepth 100000
set_option maxHeartbeats 2000000
/-! Layer ZL, part 7: a lambda that one def hands on to another. -/
namespace ZL
open PySem PySem.Spec PyProof.Rows L2 LamX
theorem un_out {F G : List Addr} {H H1 H2 : Hp} {h h1 h2 : Heap} (a : Un F [] H H1 h h1) (b : Un G [] H1 H2 h1 h2) (hG : ∀ c ∈ G, c ∈ F ∨ h.objs.size ≤ c) : Un F [] H H2 h h2 := by
  refine ⟨fun c o q n hc hx => ?_, fun c o q n _ hx => ?_, fun c o q n hx => ?_, fun c o q hx => ?_, fun c xs q => ?_, fun c o u q => ?_, fun c ps q => ?_⟩
  · refine b.keep c o (a.keep c o q n hc hx) (a.free c o q n hx) (fun m => ?_) hx
    rcases hG c m with z | z
    · exact hc z
    · exact Nat.lt_irrefl _ (Nat.lt_of_lt_of_le (Heap.lt_size q) z)
  · obtain ⟨sl, e⟩ := a.any q n hx
    obtain ⟨sl2, e2⟩ := b.any e (a.free c o q n hx) hx
    exact ⟨sl2, e2⟩
  · obtain ⟨o2, e⟩ := a.there c o q hx
    exact b.free c o2 e (a.free c o q n hx) hx
  · obtain ⟨o2, e⟩ := a.there c o q hx
    exact b.there c o2 e hx
  · exact b.tups c xs (a.tups c xs q)
  · exact b.frzs c o u (a.frzs c o u q)
  · obtain ⟨m, e⟩ := a.tbls c ps q
    obtain ⟨m2, e2⟩ := b.tbls c _ e
    exact ⟨m ++ m2, by rw [e2, Array.append_assoc]⟩
/-- a function object that may be called later, whatever frame runs -/
structure Cap (X : Cx) (k : Nat) (s : Shared) (H : Hp) (f c' : Addr) (q : Str) (tl : XK → Hp → VK → Prop) : Prop where
  at_ : PySem.W.FnAt f s.heap
  hn : H f = none
  fr : f ∉ frs X.stack
  run : ∀ (A : Around) (outer : List PySem.Env) (s1 : Shared) (HZ : Hp) (Q : VK) (E : XK), Room (k + 1) A → Env0 X.prog X.w X.K X.mg X.base A outer s1 HZ → Un (frs X.stack) [] H HZ s.heap s1.heap → HZ c' = some (CodeO c' q) → tl E HZ Q →
    codeAny (model X.prog X.w) A (.call (.ref f) ⟨[], []⟩) (CR (L2N.CX X.prog X.w) outer X.prog X.w HZ s1 Q E) s1
theorem Cap.at1 {X : Cx} {k : Nat} {s s1 : Shared} {H HZ : Hp} {f c' : Addr} {q : Str} {tl : XK → Hp → VK → Prop} (C : Cap X k s H f c' q tl) (un : Un (frs X.stack) [] H HZ s.heap s1.heap) : PySem.W.FnAt f s1.heap := by
  obtain ⟨oc, od, fd, sl, e⟩ := C.at_
  exact ⟨oc, od, fd, sl, un.keep f _ e C.hn C.fr (by simp)⟩
section
variable {X : Cx} {pins : List (Addr × Obj)} {σ : L2.St} {H : Hp} {s : Shared}
theorem cap_lam {f c' : Addr} {pm ctv : Value} {params : Arguments} {body : Expr} {scope : Scope} {k : Nat} {tb : XK → TE}
    (I : Inv X pins σ H s) (L : LamS X.env.scope scope) (hf : s.heap.get? f = some (PySem.W.kla_obj "<lambda>" (X.env.qual ++ "<lambda>") params body scope (cloFrom X.env.cells scope.names []) pm c' ctv)) (hfn : H f = none) (hfr : f ∉ frs X.stack)
    (hbind : bindArgs (PySem.W.kla_fn "<lambda>" (X.env.qual ++ "<lambda>") params body scope (cloFrom X.env.cells scope.names []) pm (.ref c') ctv) ⟨[], []⟩ = pure [])
    (hbody : ∀ (A : Around) (outer : List PySem.Env) (s : Shared) (H : Hp) (E : XK), Room k (A.deeper (lamEnv X scope s.heap.objs.size f c')) → PE (lamCxN X A outer s H E scope f c') body (tb E)) :
    Cap X k s H f c' (X.env.qual ++ "<lambda>") (fun E H' Q' => tb E σ H' Q') := by
  refine ⟨⟨_, _, _, _, hf⟩, hfn, hfr, fun A outer s1 HZ Q E hr e0 un hc ht => ?_⟩
  have of1 := un.keep f _ hf hfn hfr (by simp)
  obtain ⟨⟨oc, vs, t, o1, o2, o3⟩, _, _⟩ := e0.hok c' _ hc
  have nl : s1.heap.NoLimit := e0.mod.nolimit.keeps fun b o q => (e0.bs b o q).1
  refine PySem.W.kla_callFunE hr.depth of1 rfl L.co L.gen rfl ⟨c', oc, vs, t, rfl, o1, o2, o3⟩ ?_
  rw [hbind]
  refine wpAny_pure (wpAny_newFunctionEnv (fun y hy => (L.own y hy).2) (fun y hy => absurd hy (by simp)) (fun h₁ hns hsb => ⟨nl.fresh _ hsb, ?_⟩) L.kind)
  show codeAny _ _ (.expr body (lamEnv X scope s1.heap.objs.size f c')) _ _
  have kp : ∀ b o, s1.heap.get? b = some o → h₁.get? b = some o := fun b o q => hsb.extBut b o (Nat.ne_of_lt (Heap.lt_size q)) (Heap.get?_push_of_some _ q)
  have J : Inv (lamCxN X A outer s1 HZ E scope f c') [] σ HZ { s1 with heap := h₁, toks := s1.toks + ([] : List (Str × Value)).length } :=
    inv_xe _ (lam_start2 (E := E) I L e0 hr.hd un hns kp)
  refine PySem.W.kla_codeExpr (wpAny_mono ((hbody A outer s1 HZ E (hr.deeper _)).run [] _ _ HZ Q J ht) (fun v s' ⟨w', H', J', rv, q⟩ => ?_) fun e s' hq => hq)
  exact ⟨w', H', J'.os, J'.bare, J'.base, J'.hok, rv, q⟩
/-- x(): x holds such a function -/
theorem act_cap {CXg : CXT} {Eg : XK} {A : Around} {outer : List PySem.Env} {s2 : Shared} {H2 : Hp} {Ng : List Str} {qg : Str} {sg : Scope} {g f c' : Addr} {cdg : Value} {k i : Nat} {a q : Str} {pn : List (Addr × Obj)} {xe : Value → Shared → Prop} {W : WX} {E : XK} {tl : XK → Hp → VK → Prop} {p1 p2 : Pos}
    (C : Cap X k s H f c' q tl) (un0 : Un (frs X.stack) [] H H2 s.heap s2.heap) (ho : ∀ b ∈ frs outer, b ∈ frs X.stack ∨ s.heap.objs.size ≤ b)
    (tk : L2N.Takes ((cxOf CXg X.prog X.w X.K X.mg X.base Ng qg sg g cdg A outer s2 H2 Eg).tr pn xe) W) (hW : ∀ cls d σ' H', E cls d H' → W cls d σ' H') (hr : Room (k + 1) (A.deeper (envOfC qg sg s2.heap.objs.size g cdg)))
    (hN : Ng[i]? = some a) (hv : Vis sg a) (hd : (a == ("__debug__" : Str)) = false) (hcd : (a == ("__classdict__" : Str)) = false) :
    PE ((cxOf CXg X.prog X.w X.K X.mg X.base Ng qg sg g cdg A outer s2 H2 Eg).tr pn xe) (.Call (.Name a p1) [] [] p2)
      (fun σZ HZ Q => σZ[i]? = some (some (.ref f)) ∧ HZ c' = some (CodeO c' q) ∧ tl E HZ Q) := by
  refine ⟨fun pinsZ sZ σZ HZ Q IZ ⟨hs, hc, ht⟩ => ?_⟩
  refine wpAny_Call_Name_kw (thn ((pe_var (pos := p1) (i := i) hN hv hd hcd).run pinsZ sZ σZ HZ (fun v H1 => v = .ref f ∧ H1 = HZ) IZ ⟨.ref f, hs, rfl, rfl⟩) fun u s1 ⟨v, H1, I1, r1, ev, eH⟩ => ?_)
  subst ev
  rw [eH] at I1
  obtain rfl : u = Value.ref f := r1
  have un : Un (frs X.stack) [] H HZ s.heap s1.heap := un_out un0 I1.base ho
  refine PySem.W.callWith_F0 (C.at1 un) ?_
  have rc := C.run _ _ s1 HZ Q E hr I1.env0 un hc ht
  have hx : Passes (L2N.CX X.prog X.w) ((cxOf CXg X.prog X.w X.K X.mg X.base Ng qg sg g cdg A outer s2 H2 Eg).tr pn xe) E := fun pins σ H s e s' I c => L2N.passes_call tk hW pins σ H s e s' I c
  refine wpAny_call (codeAny_mono rc fun r s' hq => ?_)
  match r, hq with
  | .error e, hq => exact hx pinsZ σZ HZ s1 e s' I1 hq
  | .ok (.ret u), hq => exact I1.after hq
  | .ok .next, hq => exact False.elim hq
  | .ok .brk, hq => exact False.elim hq
  | .ok .cont, hq => exact False.elim hq
/-- xo(a), in a def that got the function in a -/
theorem pe_fwd {Nr Ng : List Str} {qr xo a b q : Str} {sr sg : Scope} {r g f c' : Addr} {cdr : Value} {k i : Nat} {tl : XK → Hp → VK → Prop} {TT : (XK → Hp → VK → Prop) → Hp → VK → Prop} {pg : Arguments} {bg : List Stmt} {dV kV doc pm cdv ct oc : Value} {an od : Option Addr} {osl : Array (Option Value)} {p p1 pos : Pos}
    (C : Cap X k s H f c' q tl) (hm : X.mg xo = some (.ref g)) (hk : PySem.W.keepIn X.K (.ref g) = true) (hgl : sr.names.lookup xo = some .globalImplicit) (hdb : (xo == ("__debug__" : Str)) = false)
    (lk : X.K.lookup g = some ⟨oc, od, .func (PySem.W.fnOf xo xo pg bg sg dV kV doc pm an cdv ct), osl⟩) (hcg : PySem.W.codeIn X.K cdv xo = true) (hb : L2.Binds X.K (PySem.W.fnOf xo xo pg bg sg dV kV doc pm an cdv ct) [b] []) (Sg : FnScope Ng [b] sg) (hNg : Ng[0]? = some b) (hvb : Vis sg b)
    (hG : GivesToN (cxOf C8.CX0 X.prog X.w X.K X.mg X.base Nr qr sr r cdr X.A X.stack s H C8.E0) Ng xo sg g cdv bg b q TT) (hr : Room (k + 6) X.A)
    (hN : Nr[i]? = some a) (hv : Vis sr a) (hd : (a == ("__debug__" : Str)) = false) (hcd : (a == ("__classdict__" : Str)) = false) (hdB : (b == ("__debug__" : Str)) = false) (hcdB : (b == ("__classdict__" : Str)) = false) :
    PE (cxOf C8.CX0 X.prog X.w X.K X.mg X.base Nr qr sr r cdr X.A X.stack s H C8.E0).nox (.Call (.Name xo p) [.Name a p1] [] pos)
      (fun σY HY Q => σY[i]? = some (some (.ref f)) ∧ HY c' = some (CodeO c' q) ∧ TT tl HY Q) := by
  refine ⟨fun pinsY sY σY HY Q IY ⟨hs, hc, ht⟩ => ?_⟩
  refine wpAny_Call_Name_kw (ld_glob IY hgl hm ?_ hdb)
  refine PySem.W.callWith_K (h₀ := X.base) IY.ok.mod.kin hk (thn ((pa_cons (pe_var (pos := p1) (i := i) hN hv hd hcd) pa_nil).run pos pinsY sY σY HY (fun vs H1 => vs = [.ref f] ∧ H1 = HY) IY ⟨.ref f, hs, rfl, rfl⟩) fun us s1 ⟨vs, H1, I1, rv, ev, eH⟩ => ⟨I1.kIn, ?_⟩) rfl rfl
  subst ev
  rw [eH] at I1
  have eu : us = [Value.ref f] := by
    cases rv with
    | cons ru rr =>
      cases rr
      rw [show _ = Value.ref f from ru]
  subst eu
  have hrY : Room (k + 5) (X.A.deeper (envOfC qr sr s.heap.objs.size r cdr)) := hr.deeper _
  have rc : codeAny (model X.prog X.w) (X.A.deeper (envOfC qr sr s.heap.objs.size r cdr)) (.call (.ref g) ⟨[.ref f], []⟩) (CR C8.CX0 (envOfC qr sr s.heap.objs.size r cdr :: X.stack) X.prog X.w HY s1 Q C8.E0) s1 := by
    refine run_ofS (N := Ng) (ps := [b]) (us := [.ref f]) (vs := [.ref f]) (k := k + 4) lk hcg Sg hrY I1.env0 (hb s1 [.ref f] I1.kIn rfl) (.cons rfl .nil) rfl fun hr' => ?_
    have ho : ∀ c ∈ frs (envOfC qr sr s.heap.objs.size r cdr :: X.stack), c ∈ frs X.stack ∨ s.heap.objs.size ≤ c := fun c hc => by
      rcases List.mem_cons.mp (show c ∈ s.heap.objs.size :: frs X.stack from hc) with z | z
      · exact .inr (by rw [z]; exact Nat.le_refl _)
      · exact .inl z
    obtain ⟨t', ht', hq'⟩ := hG f c' s1 HY Q tl (fun W pn xe E p1 p2 tk hW => act_cap (X := X) (i := 0) C I1.base ho tk hW (hr'.mono (by omega)) hNg hvb hdB hcdB) hc (hr'.mono (by omega)) ht
    exact ⟨t', ht'.nox, hq'⟩
  refine wpAny_call (codeAny_mono rc fun r s2 hq => ?_)
  match r, hq with
  | .error e, hq => exact (show False from hq).elim
  | .ok (.ret u), hq => exact I1.after hq
  | .ok .next, hq => exact False.elim hq
  | .ok .brk, hq => exact False.elim hq
  | .ok .cont, hq => exact False.elim hq
end
end ZL
-- ZL8
set_option Elab.async false
set_option linter.all false
set_option maxRecDepth 100000
set_option maxHeartbeats 2000000
/-! Layer ZL, part 8: the law's _law_raises. -/
namespace ZL
open PySem PySem.Spec PyProof.Rows L2 LamX Z
/-- two texts in, one behind the other -/
abbrev catS : R2 := fun x y H Q => ∃ a b : Str, x = .str a ∧ y = .str b ∧ a.length + b.length ≤ sizeLine ∧ Q (.str (a ++ b)) H
/-- the tuple that _law_raises compares with -/
def wordT : TE := tTup (tCons (tC (.str "error")) (tCons (tOp catS (tVar 1) (tC (.str " base"))) (tCons (tC .non) tNil)))
/-- what comes of _law_raises: the comparison of what comes of _law_outcome -/
def TTr (W : Sta) (CS CF : Addr) (word : Addr → Option Str) : (XK → Hp → VK → Prop) → List Nat → Hp → VK → Prop := fun tl u H Q =>
  ∀ f : Addr, TTo W.K CS CF word tl H fun v H1 => wordT (L2.start ["call", "word"] [.ref f, .str (toS u)]) H1 fun w H2 => r2 W C8.E0 (fun x y h => ofO h ((cmpV h .eq x y).map .bl)) v w H2 Q
theorem word_read {u : List Nat} {f : Addr} {H : Hp} {Q : VK} (hu : u.length ≤ 1000) (h : ∀ p, H p = none → Q (.ref p) (upd H p (.tup [.str "error", .str (toS (u ++ sBase)), .non]))) : wordT (L2.start ["call", "word"] [.ref f, .str (toS u)]) H Q := by
  refine ⟨_, rfl, _, _, rfl, rfl, ?_, ?_⟩
  · rw [sizeLine_eq]
    show u.length + 5 ≤ _
    omega
  · refine ⟨by rw [sizeLine_eq]; show 3 ≤ _; omega, fun p hp => ?_⟩
    have e2 : toS u ++ (Str.ofString " base") = toS (u ++ sBase) := by
      rw [toS_app]
      congr 1
    show Q _ (upd H p (.tup [.str "error", .str (toS u ++ Str.ofString " base"), .non]))
    rw [e2]
    exact h p hp
/-- the def that hands on what it got -/
def GivesTo2 (X : Cx) (Nr : List Str) (x : Str) (sr : Scope) (r : Addr) (cdr : Value) (br : List Stmt) (q : Str) (TT2 : (XK → Hp → VK → Prop) → List Nat → Hp → VK → Prop) : Prop :=
  ∀ (k : Nat) (f c' : Addr) (s : Shared) (H : Hp) (Q : VK) (tl : XK → Hp → VK → Prop) (u : List Nat), Cap X k s H f c' q tl → H c' = some (CodeO c' q) → Room (k + 6) X.A → okS u = true → u.length ≤ 1000 → TT2 tl u H Q →
    ∃ t, PSs (cxOf C8.CX0 X.prog X.w X.K X.mg X.base Nr x sr r cdr X.A X.stack s H C8.E0).nox br t ∧ t { nx := fun _ H' => Q .non H', rt := Q } (L2.start Nr [.ref f, .str (toS u)]) H
section
variable {X : Cx}
theorem raises_gives {W : Sta} {q : Str} {sr sg : Scope} {r g CS CF : Addr} {cdr : Value} {word : Addr → Option Str} {pg : Arguments} {bg : List Stmt} {dV kV doc pm cdv ct oc : Value} {an od : Option Addr} {osl : Array (Option Value)} {k1 k2 k3 k4 : Nat}
    {p1 p2 p3 p4 p5 p6 p7 p8 p9 p10 p11 : Pos} (hK : X.K = W.K)
    (hm : X.mg "_law_outcome" = some (.ref g)) (hk : PySem.W.keepIn X.K (.ref g) = true) (hgl : sr.names.lookup ("_law_outcome" : Str) = some .globalImplicit)
    (lk : X.K.lookup g = some ⟨oc, od, .func (PySem.W.fnOf "_law_outcome" "_law_outcome" pg bg sg dV kV doc pm an cdv ct), osl⟩) (hcg : PySem.W.codeIn X.K cdv "_law_outcome" = true) (hb : L2.Binds X.K (PySem.W.fnOf "_law_outcome" "_law_outcome" pg bg sg dV kV doc pm an cdv ct) ["call"] [])
    (Sg : FnScope ["call", "e"] ["call"] sg) (Sr : FnScope ["call", "word"] ["call", "word"] sr)
    (hG : ∀ Y : Cx, Y.prog = X.prog → Y.w = X.w → Y.K = X.K → Y.mg = X.mg → Y.base = X.base → GivesToN Y ["call", "e"] "_law_outcome" sg g cdv bg "call" q (TTo W.K CS CF word)) :
    GivesTo2 X ["call", "word"] "_law_raises" sr r cdr
      [.Return (some (.Compare (.Call (.Name "_law_outcome" p1) [.Name "call" p2] [] p3) [.Eq] [.Tuple [.Constant (.str "error") k1 p4, .BinOp (.Name "word" p5) .Add (.Constant (.str " base") k2 p6) p7, .Constant .none k3 p8] k4 p9] p10)) p11] q (TTr W CS CF word) := by
  intro k f c' s H Q tl u C hc hr hu1 hu2 h
  have vis : ∀ {N P : List Str} {sc : Scope}, FnScope N P sc → ∀ x ∈ P, Vis sc x := fun S x hx => (S.par x hx).elim .inl fun z => .inr (.inl z)
  have F := pe_fwd (X := X) (p := p1) (p1 := p2) (pos := p3) (Nr := ["call", "word"]) (qr := "_law_raises") (r := r) (cdr := cdr) (i := 0) (a := "call") (b := "call") C hm hk hgl (by decide) lk hcg hb Sg rfl (vis Sg _ (by simp)) (hG (cxOf C8.CX0 X.prog X.w X.K X.mg X.base ["call", "word"] "_law_raises" sr r cdr X.A X.stack s H C8.E0) rfl rfl rfl rfl rfl) hr rfl (vis Sr _ (by simp)) (by decide) (by decide) (by decide) (by decide)
  have un : (cxOf C8.CX0 X.prog X.w X.K X.mg X.base ["call", "word"] "_law_raises" sr r cdr X.A X.stack s H C8.E0).nox.A.units + 64 < cLine := (hr.deeper (envOfC "_law_raises" sr s.heap.objs.size r cdr)).units
  have pw : PE (cxOf C8.CX0 X.prog X.w X.K X.mg X.base ["call", "word"] "_law_raises" sr r cdr X.A X.stack s H C8.E0).nox (.Name "word" p5) (tVar 1) := pe_var rfl (vis Sr _ (by simp))
  refine ⟨_, pss_one (ps_ret (pos := p11) (pe_cmpR (pos := p10) (opCmp (X := (cxOf C8.CX0 X.prog X.w X.K X.mg X.base ["call", "word"] "_law_raises" sr r cdr X.A X.stack s H C8.E0).nox) (W := W) (E := C8.E0) hK un .eq) F (pe_tup (x1 := k4) (pos := p9) (pa_cons (pe_str (j := k1) (pos := p4)) (pa_cons (pe_op (pos := p7) op_add_str pw (pe_str (j := k2) (pos := p6))) (pa_cons (pe_non (j := k3) (pos := p8)) pa_nil)))) (nomark _))), ?_⟩
  exact ⟨rfl, hc, h f⟩
end
end ZL
-- ZL9
set_option Elab.async false
set_option linter.all false
set_option maxRecDepth 100000
set_option maxHeartbeats 2000000
/-! Layer ZL, part 9: _law_raises(lambda: e, w). -/
namespace ZL
open PySem PySem.Spec PyProof.Rows L2 LamX Z
def tLam2 (T : List (Addr × Str)) (q : Str) (TT : (XK → Hp → VK → Prop) → List Nat → Hp → VK → Prop) (t : XK → TE) (tw : TE) : TE := fun σ H Q => Tabs T H ∧ ∀ H1 c', ExtN H H1 → Tabs T H1 → H1 c' = some (CodeO c' q) →
  tw σ H1 fun v H2 => H2 c' = some (CodeO c' q) ∧ ∃ u : List Nat, v = .str (toS u) ∧ okS u = true ∧ u.length ≤ 1000 ∧ TT (fun E' H' Q' => t E' σ H' Q') u H2 Q
theorem vals_one {v : V} {us : List Value} (r : Vals [v] us) : ∃ u, us = [u] ∧ RelV v u := by
  cases r with
  | cons a b =>
    cases b
    exact ⟨_, rfl, a⟩
section
variable {X : Cx}
theorem pe_lamcall2 {T : List (Addr × Str)} {TT : (XK → Hp → VK → Prop) → List Nat → Hp → VK → Prop} {x a b : Str} {g c P : Addr} {k : Nat} {pg : Arguments} {bg : List Stmt} {sg : Scope} {dV kV doc pm cdv ct oc : Value} {an od : Option Addr} {osl : Array (Option Value)} {Ng : List Str}
    {params : Arguments} {body we : Expr} {scope : Scope} {t : XK → TE} {tw : TE} {p lpos pos : Pos} (hg : Gl X x) (hm : X.mg x = some (.ref g)) (hk : PySem.W.keepIn X.K (.ref g) = true)
    (lk : X.K.lookup g = some ⟨oc, od, .func (PySem.W.fnOf x x pg bg sg dV kV doc pm an cdv ct), osl⟩) (hcg : PySem.W.codeIn X.K cdv x = true) (hb : L2.Binds X.K (PySem.W.fnOf x x pg bg sg dV kV doc pm an cdv ct) [a, b] []) (Sg : FnScope Ng [a, b] sg)
    (hG : GivesTo2 X Ng x sg g cdv bg (X.env.qual ++ "<lambda>") TT)
    (TB : TabB X.base X.mg c P) (hcode : X.env.code = .ref c) (hmT : (P, X.env.qual ++ "<lambda>") ∈ T) (hu : ∀ p ∈ T, p.1 = P → p.2 = X.env.qual ++ "<lambda>") (hr : Room (k + 6) X.A) (L : LamS X.env.scope scope) (hdef : defaultsOf params X.env = ([], []))
    (hbind : ∀ (q : Str) (cl : List (Str × Addr)) (pm cv ctv : Value), bindArgs (PySem.W.kla_fn "<lambda>" q params body scope cl pm cv ctv) ⟨[], []⟩ = pure [])
    (hbody : ∀ (A : Around) (outer : List PySem.Env) (s : Shared) (H : Hp) (E : XK) (f c' : Addr), Room k (A.deeper (lamEnv X scope s.heap.objs.size f c')) → PE (lamCxN X A outer s H E scope f c') body (t E))
    (hw : PE X we tw) (hst : starEach [we] X.env = [(false, eval we X.env)]) (hdb : (x == ("__debug__" : Str)) = false) :
    PE X (.Call (.Name x p) [.Lambda params body scope lpos, we] [] pos) (tLam2 T (X.env.qual ++ "<lambda>") TT t tw) := by
  refine ⟨fun pins s σ H Q I h => ?_⟩
  obtain ⟨hT, h⟩ := h
  refine wpAny_Call_Name_kw (ld_glob I hg hm ?_ hdb)
  have nost : (backTo pos (starEach [we] X.env)).any (·.1) = false := by
    rw [hst]
    rfl
  refine PySem.W.callWith_K (h₀ := X.base) I.ok.mod.kin hk ?_ rfl nost
  show wpAny _ _ (spliced ((false, eval (.Lambda params body scope lpos) X.env) :: backTo pos (starEach [we] X.env))) _ _ s
  refine Calls.spliced_cons (lam_make2 I TB hcode hmT hu hT hdef (L.has I.ok) fun f c' pm' ctv H1 s' I1 eN T1 hf hfn hfr hco => ?_)
  -- the function object is pinned while the word is told
  have fL : f ≠ X.env.locals := fun z => by
    obtain ⟨m, ⟨o, es, ep, ho, hd, _⟩, _⟩ := I1.loc
    rw [← z, hf] at ho
    cases ho
    cases hd
  have fF : f ∉ X.fs := fun z => by
    rcases I1.ok.stk with e | ⟨e, hf⟩
    · exact hfr (by rw [e]; exact z)
    · refine hfr ?_
      rw [e]
      unfold frs
      rw [List.filterMap_cons, hf]
      exact List.mem_cons_of_mem _ z
  have Ip := I1.pins_of (pins' := (f, PySem.W.kla_obj "<lambda>" (X.env.qual ++ "<lambda>") params body scope (cloFrom X.env.cells scope.names []) pm' c' ctv) :: pins) fun q hq => by
    rcases List.mem_cons.mp hq with e | hq
    · subst e
      exact ⟨hf, hfn, fL, fF, fun v z => by cases z⟩
    · exact I1.pin q (List.mem_append_right _ hq)
  refine thn ((pa_cons hw pa_nil (hst.trans rfl)).run pos _ s' σ H1 (fun vs H2 => match vs with
    | [v] => H2 c' = some (CodeO c' (X.env.qual ++ "<lambda>")) ∧ ∃ u : List Nat, v = .str (toS u) ∧ okS u = true ∧ u.length ≤ 1000 ∧ TT (fun E' H' Q' => t E' σ H' Q') u H2 Q
    | _ => False) Ip (h H1 c' eN T1 hco)) fun us s2 ⟨vs, H2, I2, rv, q⟩ => ?_
  match vs, rv, q with
  | [], _, q => exact q.elim
  | _ :: _ :: _, _, q => exact q.elim
  | [v], rv, q =>
    obtain ⟨uw, rfl, ru⟩ := vals_one rv
    obtain ⟨hc2, u, rfl, o1, o2, hT2⟩ := q
    have pin := I2.pin _ (List.mem_append_right _ (List.mem_cons_self ..))
    have I3 : Inv X pins σ H2 s2 := I2.pins_of fun q hq => I2.pin q (List.mem_append_right _ (List.mem_cons_of_mem _ hq))
    refine ⟨I3.kIn, ?_⟩
    have C := cap_lam (k := k) (tb := t) I3 L pin.1 pin.2.1 hfr (hbind _ _ _ _ _) fun A outer s H E hr2 => hbody A outer s H E f c' hr2
    have rc : codeAny (model X.prog X.w) X.A (.call (.ref g) ⟨[.ref f, uw], []⟩) (CR C8.CX0 X.stack X.prog X.w H2 s2 Q C8.E0) s2 := by
      refine run_ofS (N := Ng) (ps := [a, b]) (us := [.ref f, uw]) (vs := [.ref f, .str (toS u)]) (k := k + 5) lk hcg Sg hr I3.env0 (hb s2 [.ref f, uw] I3.kIn rfl) (.cons rfl (.cons ru .nil)) rfl fun hr' => ?_
      obtain ⟨t', ht', hq'⟩ := hG k f c' s2 H2 Q _ u C hc2 hr o1 o2 hT2
      exact ⟨t', ht'.nox, hq'⟩
    refine wpAny_call (codeAny_mono rc fun r s3 hq => ?_)
    match r, hq with
    | .error e, hq => exact (show False from hq).elim
    | .ok (.ret u), hq => exact I3.after hq
    | .ok .next, hq => exact False.elim hq
    | .ok .brk, hq => exact False.elim hq
    | .ok .cont, hq => exact False.elim hq
end
end ZL
-- Z18
set_option Elab.async false
set_option linter.all false
set_option maxRecDepth 100000
set_option maxHeartbeats 1000000
/-! Layer Z, part 18: from the program's syntax to the layer's. -/
namespace Z
open PySem PySem.Spec PyProof.Rows L2
def mapO {α β : Type} (f : α → Option β) : List α → Option (List β)
  | [] => some []
  | x :: r => (f x).bind fun y => (mapO f r).map fun ys => y :: ys
theorem mapO_fa {α β : Type} {f : α → Option β} {R : α → β → Prop} (k : ∀ a b, f a = some b → R a b) : ∀ {as : List α} {bs : List β}, mapO f as = some bs → Fa R as bs
  | [], bs, e => by
    cases e
    exact .nil
  | a :: r, bs, e => by
    obtain ⟨b, e1, e2⟩ := Option.bind_eq_some_iff.mp e
    obtain ⟨bs', e3, rfl⟩ := Option.map_eq_some_iff.mp e2
    exact .cons (k a b e1) (mapO_fa k e3)
/-- what is known at a place of the code -/
structure Sx where
  /-- the slots' names -/
  N : List Str
  /-- the scope that runs -/
  sc : Scope
  /-- a comprehension's written scope -/
  own : Option Scope := none
  /-- the defs: the name, the number, how many parameters -/
  fs : List (Str × Nat × Nat)
  /-- built-in names in use -/
  bs : List Str
  /-- constants -/
  gs : List (Str × PV)
  /-- exceptions' classes -/
  xs : List (Str × Nat)
  /-- slots of what is changed later -/
  mu : List Nat
  /-- _law_outcome(lambda: ..), _law_raises(lambda: .., w) may stand here -/
  lam : Bool := false
  rai : Bool := false
  /-- whatever is made may change later -/
  deep : Bool := false
def wrapA (S : Sx) (a : A) : E := match S.deep with
  | true => .mut a
  | false => .frz a
def kindB (S : Sx) (x : Str) : Option NameKind := S.sc.names.lookup x
def visB (S : Sx) (x : Str) : Bool := match kindB S x with
  | some .local => true
  | some .cell => true
  | some .free => true
  | _ => false
def glB (S : Sx) (x : Str) : Bool := decide (kindB S x = some .globalImplicit) && (x == ("__debug__" : Str)) == false && decide (x ≠ "__name__")
def locB (S : Sx) (x : Str) : Bool := match kindB S x with
  | some .local => true
  | some .cell => match S.own with
    | none => true
    | some o => o.names.lookup x == some .cell
  | _ => false
def plB (S : Sx) (x : Str) : Bool := decide (kindB S x = some .local)
def slotB (S : Sx) (x : Str) : Option Nat := (S.N.findIdx? fun y => y == x).bind fun i => ocond (decide (S.N[i]? = some x)) i
/-- _law_outcome, as it stands in the module -/
structure OutS (X : Cx) (W : Sta) (CS CF : Addr) (word : Addr → Option Str) : Prop where
  ex : ∃ (g : Addr) (oc : Value) (od : Option Addr) (pg : Arguments) (bg : List Stmt) (sg : Scope) (dV kV doc pm : Value) (an : Option Addr) (cdv ct : Value) (osl : Array (Option Value)),
    X.mg "_law_outcome" = some (.ref g) ∧ PySem.W.keepIn X.K (.ref g) = true ∧ X.K.lookup g = some ⟨oc, od, .func (PySem.W.fnOf "_law_outcome" "_law_outcome" pg bg sg dV kV doc pm an cdv ct), osl⟩ ∧ PySem.W.codeIn X.K cdv "_law_outcome" = true ∧
      Binds X.K (PySem.W.fnOf "_law_outcome" "_law_outcome" pg bg sg dV kV doc pm an cdv ct) ["call"] [] ∧ FnScope ["call", "e"] ["call"] sg ∧
      ∀ (Y : Cx) (q : Str), Y.prog = X.prog → Y.w = X.w → Y.K = X.K → Y.mg = X.mg → Y.base = X.base → ZL.GivesToN Y ["call", "e"] "_law_outcome" sg g cdv bg "call" q (ZL.TTo W.K CS CF word)
/-- _law_raises, as it stands in the module -/
structure RaiS (X : Cx) (W : Sta) (CS CF : Addr) (word : Addr → Option Str) : Prop where
  ex : ∃ (g : Addr) (oc : Value) (od : Option Addr) (pg : Arguments) (bg : List Stmt) (sg : Scope) (dV kV doc pm : Value) (an : Option Addr) (cdv ct : Value) (osl : Array (Option Value)),
    X.mg "_law_raises" = some (.ref g) ∧ PySem.W.keepIn X.K (.ref g) = true ∧ X.K.lookup g = some ⟨oc, od, .func (PySem.W.fnOf "_law_raises" "_law_raises" pg bg sg dV kV doc pm an cdv ct), osl⟩ ∧ PySem.W.codeIn X.K cdv "_law_raises" = true ∧
      Binds X.K (PySem.W.fnOf "_law_raises" "_law_raises" pg bg sg dV kV doc pm an cdv ct) ["call", "word"] [] ∧ FnScope ["call", "word"] ["call", "word"] sg ∧
      ∀ q : Str, ZL.GivesTo2 X ["call", "word"] "_law_raises" sg g cdv bg q (ZL.TTr W CS CF word)
/-- the table of the code objects of the def's lambdas -/
structure TabX (X : Cx) (W : Sta) : Prop where
  ex : ∃ c P, LamX.TabB X.base X.mg c P ∧ X.env.code = .ref c ∧ (P, X.env.qual ++ "<lambda>") ∈ W.T ∧ ∀ p ∈ W.T, p.1 = P → p.2 = X.env.qual ++ "<lambda>"
/-- what lambdas lean on -/
structure LamG (X : Cx) (W : Sta) (C : Ctx) (S : Sx) : Prop where
  ex : ∃ (k : Nat) (CS CF : Addr) (word : Addr → Option Str), Room (7 * k + 6) X.A ∧
    (∀ x f n, S.fs.lookup x = some (f, n) → ∃ a fd ps, FnOk X.prog X.w X.K X.mg X.base (L2N.CX X.prog X.w) (7 * k) a fd ps (spOf W n (C.fn f)) ∧ X.mg x = some (.ref a) ∧ PySem.W.keepIn X.K (.ref a) = true ∧ Binds X.K fd ps []) ∧
    TabX X W ∧ WordOk X W C CS CF word ∧ OutS X W CS CF word ∧ (S.rai = true → RaiS X W CS CF word)
structure Good (X : Cx) (W : Sta) (E : XK) (C : Ctx) (S : Sx) : Prop where
  N : X.N = S.N
  nd : X.N.Nodup
  sc : X.env.scope = S.sc
  kd : X.env.scope.kind = .function
  fn : ∀ x, locB S x = true → X.fn x = true ∨ X.env.scope.names.lookup x = some .local
  calm : X.calm = true
  K : X.K = W.K
  hu : X.A.units + 64 < cLine
  fs : ∀ x f n, S.fs.lookup x = some (f, n) → Fk X W E x n (C.fn f)
  bs : ∀ x, S.bs.contains x = true → X.mg x = none
  gs : ∀ x v, S.gs.lookup x = some v → ∃ u, (∀ z, RV W z v u) ∧ ∃ uu, X.mg x = some uu ∧ RelV u uu
  lam : S.lam = true → LamG X W C S
section
variable {X : Cx} {W : Sta} {E : XK} {C : Ctx} {S : Sx} {pos : Pos}
theorem Good.vis (G : Good X W E C S) {x : Str} (h : visB S x = true) : Vis X.env.scope x := by
  unfold visB kindB at h
  rw [← G.sc] at h
  unfold Vis
  split at h
  · exact .inl (by assumption)
  · exact .inr (.inl (by assumption))
  · exact .inr (.inr (by assumption))
  · cases h
theorem Good.gl (G : Good X W E C S) {x : Str} (h : glB S x = true) : Gl X x ∧ (x == ("__debug__" : Str)) = false ∧ x ≠ "__name__" := by
  unfold glB kindB at h
  rw [← G.sc] at h
  simp only [Bool.and_eq_true, decide_eq_true_eq, beq_iff_eq] at h
  exact ⟨h.1.1, h.1.2, h.2⟩
theorem Good.loc (G : Good X W E C S) {x : Str} (h : locB S x = true) : L2.Loc X.env.scope x := by
  unfold locB kindB at h
  rw [← G.sc] at h
  unfold L2.Loc
  split at h
  · exact .inl (by assumption)
  · exact .inr (by assumption)
  · cases h
theorem Good.pl (G : Good X W E C S) {x : Str} (h : plB S x = true) : X.env.scope.names.lookup x = some .local := by
  unfold plB kindB at h
  rw [← G.sc] at h
  exact of_decide_eq_true h
theorem Good.slot (G : Good X W E C S) {x : Str} {i : Nat} (h : slotB S x = some i) : X.N[i]? = some x := by
  obtain ⟨j, _, e⟩ := Option.bind_eq_some_iff.mp h
  obtain ⟨c, rfl⟩ := ocond_some e
  rw [G.N]
  exact of_decide_eq_true c
theorem Good.bt (G : Good X W E C S) {x : Str} (h : S.bs.contains x = true) : X.mg x = none := G.bs x h
end
/-! ### expressions -/
def bopOf : Operator → Option BOp
  | .Add => some .add
  | .Sub => some .sub
  | .Mult => some .mul
  | .FloorDiv => some .fdiv
  | .Mod => some .mod
  | .Pow => some .pow
  | _ => none
def copOf : CmpOp → Option COp
  | .Eq => some .eq
  | .NotEq => some .ne
  | .Lt => some .lt
  | .LtE => some .le
  | .Gt => some .gt
  | .GtE => some .ge
  | .Is => some .is
  | .IsNot => some .isn
  | .In => some .isin
  | .NotIn => some .nin
theorem bopOf_eq {o : Operator} {p : BOp} (e : bopOf o = some p) : o = opOf p := by
  cases o <;> cases e <;> rfl
theorem copOf_eq {o : CmpOp} {p : COp} (e : copOf o = some p) : o = cmpOf p := by
  cases o <;> cases e <;> rfl
def trC : Const → Option PV
  | .none => some .non
  | .bool b => some (.bl b)
  | .int i => some (.int i)
  | .str s => ocond (okS s.cps.toList && decide (s.cps.size ≤ 1000000)) (.str s.cps.toList)
  | _ => none
def biTab : List (Str × BI) := [("len", .len), ("int", .int), ("str", .str), ("tuple", .tuple), ("all", .all), ("any", .any), ("min", .min), ("max", .max)]
def biOf (x : Str) : Option BI := biTab.lookup x
def tyTab : List (Str × Ty) := [("int", .int), ("bool", .bool), ("str", .str), ("tuple", .tup), ("list", .lst)]
def tyOfN (x : Str) : Option Ty := tyTab.lookup x
def trName (S : Sx) (x : Str) : Option E :=
  if visB S x = true then (if (x == ("__debug__" : Str)) = false ∧ (x == ("__classdict__" : Str)) = false then (slotB S x).map .var else none)
  else if glB S x = true then (S.gs.lookup x).map .cst else none
def isSlice : Expr → Bool
  | .Slice _ _ _ _ => true
  | _ => false
def trP (tr : Expr → Option E) : Option Expr → Option (List E)
  | none => some []
  | some e => (tr e).map fun x => [x]
def btB (S : Sx) (x : Str) : Bool := glB S x && S.bs.contains x
def nameIs (f : Expr) (x : Str) : Bool := match f with
  | .Name y _ => y == x
  | _ => false
/-- built-in names called with arguments -/
def trBi (tr : Expr → Option E) (S : Sx) (x : Str) (es : List Expr) : Option E :=
  if x = "isinstance" then (match es with
    | [a, .Name t _] => (tr a).bind fun a' => (tyOfN t).bind fun ty => ocond (btB S x && btB S t) (.isi a' ty)
    | _ => none)
  else (biOf x).bind fun b => (mapO tr es).bind fun es' => ocond (btB S x && !es.isEmpty) (.bi b es')
def mTab : List ((Str × Nat) × Nat) := [(("append", 1), 1), (("extend", 1), 2), (("pop", 0), 3), (("join", 1), 8), (("get", 2), 7), (("pop", 1), 10)]
def trMeth (tr : Expr → Option E) (o : Expr) (name : Str) (es : List Expr) (ap p : Pos) : Option E :=
  (mTab.lookup (name, es.length)).bind fun q => (tr o).bind fun o' => (mapO tr es).bind fun es' => ocond (!isCall o && (ap.endLine == p.line)) (.meth o' q es')
def trCall (tr : Expr → Option E) (S : Sx) (f : Expr) (es : List Expr) (p : Pos) : Option E := match f with
  | .Name x _ => match S.fs.lookup x with
    | some q => (mapO tr es).bind fun es' => ocond (glB S x && decide (es'.length = q.2)) (.call q.1 es')
    | none => trBi tr S x es
  | .Attribute o name ap => trMeth tr o name es ap p
  | _ => none
/-- targets -/
def trT : Nat → Sx → Expr → Option T
  | 0, _, _ => none
  | n + 1, S, e => match e with
    | .Name x _ => (slotB S x).bind fun i => ocond (locB S x) (.name i)
    | .Tuple es _ _ => (mapO (trT n S) es).map .tup
    | _ => none
def isTup : Expr → Bool
  | .Tuple _ _ _ => true
  | _ => false
/-- what a loop walks -/
def trI (tr : Expr → Option E) (S : Sx) (tg : Expr) (e : Expr) : Option I := match e with
  | .Call (.Name x p) [a] [] q =>
    if x = "range" then ocond (btB S "range") () |>.bind fun _ => (tr a).map fun a' => .rng (.cst (.int 0)) a'
    else if x = "enumerate" then ocond (btB S "enumerate" && isTup tg) () |>.bind fun _ => (tr a).map .enum
    else (tr (.Call (.Name x p) [a] [] q)).map .val
  | .Call (.Name x p) [a, b] [] q =>
    if x = "range" then ocond (btB S "range") () |>.bind fun _ => (tr a).bind fun a' => (tr b).map fun b' => .rng a' b'
    else if x = "zip" then ocond (btB S "zip" && isTup tg) () |>.bind fun _ => (tr a).bind fun a' => (tr b).map fun b' => .zip [a', b']
    else (tr (.Call (.Name x p) [a, b] [] q)).map .val
  | .Set _ _ _ => none
  | e => (tr e).map .val
/-- a comprehension's own names -/
def ownOf (N : List Str) (scope : Scope) : List (Str × Nat) := scope.names.filterMap fun y => match y.2 with
  | .local => (N.findIdx? fun z => z == y.1).map fun i => (y.1, i)
  | .cell => (N.findIdx? fun z => z == y.1).map fun i => (y.1, i)
  | _ => none
def Sx.inner (S : Sx) (scope : Scope) : Sx := { S with sc := relS scope S.sc, own := some scope, mu := [] }
def trComp (tr : Sx → Expr → Option E) (S : Sx) (elt : Expr) (gs : List Comprehension) (scope : Scope) : Option A := match gs with
  | [⟨tg, iter, ifs, 0⟩] => (trI (tr S) S tg iter).bind fun it => (trT 8 (S.inner scope) tg).bind fun t => (mapO (tr (S.inner scope)) ifs).bind fun fs => (tr (S.inner scope) elt).bind fun el =>
      ocond (blkC S.N S.sc scope (ownOf S.N scope) && (t.slots.all fun i => decide (i ∈ (ownOf S.N scope).map (·.2))) && decide (fs.length ≤ 1)) (.comp ((ownOf S.N scope).map (·.2)) el t it fs)
  | [⟨tg, iter, [], 0⟩, ⟨tg2, iter2, ifs, 0⟩] => (trI (tr S) S tg iter).bind fun it => (trT 8 (S.inner scope) tg).bind fun t => (trI (tr (S.inner scope)) (S.inner scope) tg2 iter2).bind fun it2 => (trT 8 (S.inner scope) tg2).bind fun t2 =>
      (mapO (tr (S.inner scope)) ifs).bind fun fs => (tr (S.inner scope) elt).bind fun el =>
      ocond (blkC S.N S.sc scope (ownOf S.N scope) && (t.slots.all fun i => decide (i ∈ (ownOf S.N scope).map (·.2))) && (t2.slots.all fun i => decide (i ∈ (ownOf S.N scope).map (·.2))) && decide (fs.length ≤ 1)) (.comp2 ((ownOf S.N scope).map (·.2)) el t it t2 it2 fs)
  | _ => none
def trKey : Option Expr → Option PV
  | some (.Constant c _ _) => (trC c).bind fun v => ocond (keyOk v) v
  | _ => none
/-- what makes something new -/
def trA (tr : Sx → Expr → Option E) (S : Sx) : Expr → Option A
  | .List es _ => (mapO (tr S) es).bind fun es' => ocond (decide (es'.length < 100000)) (.disp es')
  | .ListComp elt gs scope _ => trComp tr S elt gs scope
  | .Dict [] [] _ => some .dict0
  | .Dict keys vals _ => (mapO trKey keys).bind fun ks => (mapO (tr S) vals).bind fun es' => ocond (decide (keys.length = vals.length) && decide (keys.length ≤ 15) && !keys.isEmpty && decide (ks.map keyD).Nodup) (.ddisp ks es')
  | .Call (.Name x _) [e] [] _ => if x = "list" then ocond (btB S "list") () |>.bind fun _ => (tr S e).map .listof else none
  | _ => none
def noArgs : Arguments → Bool
  | ⟨[], [], none, [], [], none, []⟩ => true
  | _ => false
theorem noArgs_eq {a : Arguments} (h : noArgs a = true) : a = ⟨[], [], none, [], [], none, []⟩ := by
  unfold noArgs at h
  split at h
  · rfl
  · cases h
def Sx.lamS (S : Sx) (scope : Scope) : Sx := { S with sc := scope, own := some scope, mu := [], lam := false, rai := false }
def trEF (tr : Sx → Expr → Option E) (S : Sx) : Expr → Option E
  | .Name x _ => trName S x
  | .Constant c _ _ => (trC c).map .cst
  | .Tuple es _ _ => (mapO (tr S) es).bind fun es' => ocond (decide (es'.length < 100000)) (.tup es')
  | .BinOp a o b _ => (bopOf o).bind fun o' => (tr S a).bind fun a' => (tr S b).map fun b' => .bin o' a' b'
  | .UnaryOp .Not a _ => (tr S a).map .not
  | .UnaryOp .USub a _ => (tr S a).map .neg
  | .Compare a [o] [b] _ => (copOf o).bind fun o' => (tr S a).bind fun a' => (tr S b).bind fun b' => ocond (!behindInMarks o b) (.cmp o' a' b')
  | .Compare a [o, o2] [b, c] _ => (copOf o).bind fun o' => (copOf o2).bind fun p' => (tr S a).bind fun a' => (tr S b).bind fun b' => (tr S c).bind fun c' => ocond (!lastMarks [o, o2] [b, c]) (.chain o' p' a' b' c')
  | .BoolOp .And es _ => (mapO (tr S) es).bind fun es' => ocond (!es.isEmpty) (.and es')
  | .BoolOp .Or es _ => (mapO (tr S) es).bind fun es' => ocond (!es.isEmpty) (.or es')
  | .IfExp c a b _ => (tr S c).bind fun c' => (tr S a).bind fun a' => (tr S b).map fun b' => .ife c' a' b'
  | .Subscript a (.Slice lo hi none _) _ => (tr S a).bind fun a' => (trP (tr S) lo).bind fun lo' => (trP (tr S) hi).map fun hi' => .slc a' lo' hi'
  | .Subscript a b _ => (tr S a).bind fun a' => (tr S b).bind fun b' => ocond (!isSlice b) (.sub a' b')
  | .List es p => (trA tr S (.List es p)).map (wrapA S)
  | .ListComp elt gs scope p => (trA tr S (.ListComp elt gs scope p)).map (wrapA S)
  | .Dict ks vs p => (trA tr S (.Dict ks vs p)).map (wrapA S)
  | .Call (.Name x _) [.Lambda a body scope _] [] _ => if x = "_law_outcome" then ocond (S.lam && noArgs a && glB S x && LamX.lamSB S.sc scope) () |>.bind fun _ => (tr (S.lamS scope) body).map .lam else none
  | .Call (.Name x _) [.Lambda a body scope _, w] [] _ => if x = "_law_raises" then ocond (S.lam && S.rai && noArgs a && glB S x && LamX.lamSB S.sc scope) () |>.bind fun _ => (tr (S.lamS scope) body).bind fun b => (tr S w).map fun w' => .lamR b w' else none
  | .Call f es [] p => match trA tr S (.Call f es [] p) with
    | some a => some (wrapA S a)
    | none => trCall (tr S) S f es p
  | _ => none
def trE : Nat → Sx → Expr → Option E
  | 0, _, _ => none
  | n + 1, S, e => trEF (trE n) S e
end Z
-- Z19
set_option Elab.async false
set_option linter.all false
set_option maxRecDepth 100000
set_option maxHeartbeats 2000000
/-! Layer Z, part 19: the translation of expressions is sound. -/
namespace Z
open PySem PySem.Spec PyProof.Rows L2
def Snd (W : Sta) (C : Ctx) (tr : Sx → Expr → Option E) : Prop := ∀ (S : Sx) (X : Cx) (E : XK), Good X W E C S → ∀ e e', tr S e = some e' → Zx X W E C e e'
section
variable {X : Cx} {W : Sta} {E : XK} {C : Ctx} {S : Sx} {pos : Pos} {tr : Sx → Expr → Option Z.E}
theorem blkGood (G : Good X W E C S) {scope : Scope} (hk : scope.kind = .function) (s : Shared) (H : Hp) (CC : Addr) (cl : List (Str × Addr)) (fp : List Addr) : Good (X.blk s H scope (compEnvC scope cl CC X.env) fp) W E0' C (S.inner scope) where
  N := G.N
  nd := G.nd
  sc := by
    show relS scope X.env.scope = relS scope S.sc
    rw [G.sc]
  kd := hk
  fn := fun x h => by
    have e : (compEnvC scope cl CC X.env).scope = relS scope S.sc := by
      show relS scope X.env.scope = relS scope S.sc
      rw [G.sc]
    unfold locB kindB at h
    have h' : (match (relS scope S.sc).names.lookup x with
      | some .local => true
      | some .cell => (scope.names.lookup x == some .cell)
      | _ => false) = true := h
    split at h'
    · right
      show (compEnvC scope cl CC X.env).scope.names.lookup x = _
      rw [e]
      assumption
    · exact .inl h'
    · cases h'
  calm := G.calm
  K := G.K
  hu := G.hu
  fs := fun x f n h => by
    obtain ⟨k, a, fd, ps, F, hr, hm, hk, hb, hx⟩ := (G.fs x f n h).ex
    exact ⟨k, a, fd, ps, F, hr, hm, hk, hb, fun _ _ _ _ _ _ _ ⟨_, _, _, _, _, _, _, _, _, _, _, _, q⟩ => q.elim⟩
  bs := G.bs
  gs := G.gs
  lam := fun h => by
    obtain ⟨k, CS, CF, word, hr, fk, ⟨T⟩, hw, O, R⟩ := (G.lam h).ex
    exact ⟨k, CS, CF, word, hr, fk, ⟨T⟩, ⟨hw.ok⟩, ⟨O.ex⟩, fun q => by
      obtain ⟨g, oc, od, pg, bg, sg, dV, kV, doc, pm, an, cdv, ct, osl, h1, h2, h3, h4, h5, h6, h7⟩ := (R q).ex
      exact ⟨g, oc, od, pg, bg, sg, dV, kV, doc, pm, an, cdv, ct, osl, h1, h2, h3, h4, h5, h6, fun q k f c' s H Q tl u C => h7 q k f c' s H Q tl u ⟨C.at_, C.hn, C.fr, C.run⟩⟩⟩
theorem lamGood (G : Good X W E C S) {k : Nat} (fk : ∀ x f n, S.fs.lookup x = some (f, n) → ∃ a fd ps, FnOk X.prog X.w X.K X.mg X.base (L2N.CX X.prog X.w) (7 * k) a fd ps (spOf W n (C.fn f)) ∧ X.mg x = some (.ref a) ∧ PySem.W.keepIn X.K (.ref a) = true ∧ Binds X.K fd ps [])
    {scope : Scope} (L : LamX.LamS X.env.scope scope) {A : Around} {outer : List PySem.Env} {s : Shared} {H : Hp} {E' : XK} {f c' : Addr} (hr : Room (7 * k) (A.deeper (LamX.lamEnv X scope s.heap.objs.size f c'))) :
    Good (ZL.lamCxN X A outer s H E' scope f c') W E' C (S.lamS scope) where
  N := G.N
  nd := G.nd
  sc := rfl
  kd := L.kind
  fn := fun x h => by
    exfalso
    unfold locB kindB at h
    have h' : (match scope.names.lookup x with
      | some .local => true
      | some .cell => (scope.names.lookup x == some .cell)
      | _ => false) = true := h
    split at h'
    · rename_i e
      exact (L.own _ (PySem.mem_of_lookup e)).1 rfl
    · rename_i e
      exact (L.own _ (PySem.mem_of_lookup e)).2 rfl
    · cases h'
  calm := rfl
  K := G.K
  hu := by
    have := hr.un
    show (A.deeper _).units + 64 < cLine
    omega
  fs := fun x f n e => by
    obtain ⟨a, fd, ps, F, hm, hk, hb⟩ := fk x f n e
    exact ⟨7 * k, a, fd, ps, F, hr, hm, hk, hb, fun pins σ H0 s0 e0 s0' I c => L2N.passes_call ZL.lam_takes (fun _ _ _ _ q => q) pins σ H0 s0 e0 s0' I c⟩
  bs := G.bs
  gs := G.gs
  lam := fun h => by cases h
theorem vis_par {N P : List Str} {sc : Scope} (S : FnScope N P sc) {x : Str} (hx : x ∈ P) : Vis sc x := (S.par x hx).elim .inl fun z => .inr (.inl z)
/-- _law_outcome(lambda: body) -/
theorem zLam {body : Expr} {body' : Z.E} {scope : Scope} {p lpos : Pos} (h : Snd W C tr) (G : Good X W E C S) (hl : S.lam = true) (hg : Gl X "_law_outcome") (L : LamX.LamS X.env.scope scope) (ht : tr (S.lamS scope) body = some body') :
    PE X (.Call (.Name "_law_outcome" p) [.Lambda ⟨[], [], none, [], [], none, []⟩ body scope lpos] [] pos) (tE W E (evE C (.lam body'))) := by
  obtain ⟨k, CS, CF, word, hr, fk, Tb, hw, O, _⟩ := (G.lam hl).ex
  obtain ⟨g, oc, od, pg, bg, sg, dV, kV, doc, pm, an, cdv, ct, osl, hm, hk, lk, hcg, hb, Sg, hG⟩ := O.ex
  obtain ⟨c, P, TB, hcode, hmT, hu⟩ := Tb.ex
  refine (ZL.pe_lamcallN (T := W.T) (TT := ZL.TTo W.K CS CF word) (t := fun E' => tE W E' (evE C body')) (k := 7 * k) (a := "call") (Ng := ["call", "e"]) hg hm hk lk hcg hb Sg rfl (vis_par Sg (by simp)) (hG X _ rfl rfl rfl rfl rfl) TB hcode hmT hu (hr.mono (by omega)) L rfl (fun _ _ _ _ _ => rfl)
    (fun A outer s H E' f c' hr => (h _ _ _ (lamGood G fk L (hr.mono (by omega))) body body' ht).pe) (by decide) (by decide) (by decide)).imp fun σ H Q q => ⟨?_, fun H1 e t => ?_⟩
  · obtain ⟨z, ρ, h, re, rh, _⟩ := q
    exact rh.tab
  · rw [← G.K]
    exact lam_read hw e t q
/-- a code object is known from now on -/
theorem RH.addCode {z : Zn} {h : AH} {H : Hp} {c : Addr} {q : Str} (R : RH W z h H) (e : H c = some (LamX.CodeO c q)) : ∃ z1, z.Le z1 ∧ RH W z1 h H ∧ z1.fz c = some (LamX.CodeO c q) := by
  cases ez : z.fz c with
  | some o =>
    have := R.fz _ _ ez
    rw [e] at this
    cases this
    exact ⟨z, Zn.Le.refl z, R, ez⟩
  | none =>
    have nm : c ∉ z.mp := fun m => by
      obtain ⟨i, hi, ei⟩ := List.mem_iff_getElem.mp m
      have hlt : i < h.length := by rw [← R.len]; exact hi
      obtain ⟨u, hu, pu⟩ := (R.mo i _ c (List.getElem?_eq_getElem hlt) (by rw [List.getElem?_eq_getElem hi, ei])).plain
      rw [e] at hu
      cases hu
      cases pu
    have L : z.Le (addFz z c (LamX.CodeO c q)) := by
      refine ⟨⟨[], by simp [addFz]⟩, fun a u ea => ?_, fun _ _ e => e⟩
      have ne : a ≠ c := fun q => by
        rw [q, ez] at ea
        cases ea
      rw [addFz_ne ne]
      exact ea
    refine ⟨_, L, ⟨fun a u ea => ?_, fun a u ea => ?_, R.len, fun i m a e1 e2 => RMO.mono L (fun _ q => q) (R.mo i m a e1 e2), R.nd, fun a ha => ?_, R.tab, fun a u ea => ?_⟩, addFz_at⟩
    · by_cases ac : a = c
      · rw [ac, addFz_at] at ea
        cases ea
        rw [ac]
        exact e
      · rw [addFz_ne ac] at ea
        exact R.fz _ _ ea
    · by_cases ac : a = c
      · rw [ac, addFz_at] at ea
        cases ea
        rfl
      · rw [addFz_ne ac] at ea
        exact R.pl _ _ ea
    · have ac : a ≠ c := fun q => nm (q ▸ ha)
      rw [addFz_ne ac]
      exact R.dis a ha
    · obtain ⟨r1, r2, r3, r4⟩ := R.rs a u ea
      have ac : a ≠ c := fun q => by
        rw [q, e] at r1
        cases r1
        cases r4
      exact ⟨r1, by rw [addFz_ne ac]; exact r2, r3, r4⟩
theorem post_ofO {α : Type} {z : Zn} {E E' : XK} {h : AH} {o : Option α} {K : Zn → α → AH → Hp → Prop} (p : Post W z E (ofO h o) K) : Post W z E' (ofO h o) K := by
  cases o with
  | none => exact p
  | some a => exact p
/-- _law_raises(lambda: body, w) -/
theorem zLamR {body we : Expr} {body' w : Z.E} {scope : Scope} {p lpos : Pos} (h : Snd W C tr) (G : Good X W E C S) (hl : S.lam = true) (hl2 : S.rai = true) (hg : Gl X "_law_raises") (L : LamX.LamS X.env.scope scope) (ht : tr (S.lamS scope) body = some body') (zw : Zx X W E C we w) :
    PE X (.Call (.Name "_law_raises" p) [.Lambda ⟨[], [], none, [], [], none, []⟩ body scope lpos, we] [] pos) (tE W E (evE C (.lamR body' w))) := by
  obtain ⟨k, CS, CF, word, hr, fk, Tb, hw, _, R⟩ := (G.lam hl).ex
  obtain ⟨g, oc, od, pg, bg, sg, dV, kV, doc, pm, an, cdv, ct, osl, hm, hk, lk, hcg, hb, Sg, hG⟩ := (R hl2).ex
  obtain ⟨c, P, TB, hcode, hmT, hu⟩ := Tb.ex
  refine (ZL.pe_lamcall2 (T := W.T) (TT := ZL.TTr W CS CF word) (t := fun E' => tE W E' (evE C body')) (k := 7 * k) (a := "call") (b := "word") (Ng := ["call", "word"]) hg hm hk lk hcg hb Sg (hG _) TB hcode hmT hu hr L rfl (fun _ _ _ _ _ => rfl)
    (fun A outer s H E' f c' hr => (h _ _ _ (lamGood G fk L hr) body body' ht).pe) zw.pe (starNo zw.ns) (by decide)).imp fun σ H Q q => ?_
  obtain ⟨z, ρ, h, re, rh, p⟩ := q
  refine ⟨rh.tab, fun H1 c' e t hc => ?_⟩
  have R1 := rh.extN e t
  obtain ⟨z1, l1, R2, ez⟩ := R1.addCode hc
  have p' : Post W z E ((evE C w ρ h).bnd fun y h1 => match y with
    | .str u => grd (decide (u.length ≤ 1000)) ((outc C (evE C body' ρ h1)).bnd fun v h2 => ofO h2 ((cmpV h2 .eq v (.tup [.str sError, .str (u ++ sBase), .non])).map .bl))
    | _ => .stuck) (KV W Q) := p
  refine ⟨z1, ρ, h, re.mono l1, R2, (Post.mono l1 p').bnd.imp fun z2 y h1 H2 l2 R3 p2 v rv => ?_⟩
  refine ⟨R3.fz _ _ (l2.fz _ _ ez), ?_⟩
  cases y with
  | str u =>
    obtain ⟨rfl, ru, ro⟩ := rv
    obtain ⟨g1, p3⟩ := grd_ok p2
    have gl := of_decide_eq_true g1
    refine ⟨u, rfl, ro, gl, fun f => ?_⟩
    rw [← G.K]
    refine outc_read (E := E) hw σ ⟨z2, ρ, h1, re.mono (l1.trans l2), R3, p3.bnd.imp fun z3 v h2 H3 l3 R4 p4 v' rv' => ?_⟩
    refine ZL.word_read gl fun a ha => ?_
    have oke : RV W z3 (.str sError) (.str "error") := ⟨by rw [← sE], by rw [sizeLine_eq]; decide, by decide⟩
    have oku : RV W z3 (.str (u ++ sBase)) (.str (toS (u ++ sBase))) := ⟨rfl, by rw [sizeLine_eq, List.length_append]; have : sBase.length = 5 := rfl; omega, okS_app ro (by decide)⟩
    have okn : RV W z3 .non .non := rfl
    have L5 : z3.Le (addFz z3 a (.tup [.str "error", .str (toS (u ++ sBase)), .non])) := R4.le_fz ha
    refine ⟨addFz z3 a (.tup [.str "error", .str (toS (u ++ sBase)), .non]), v, .tup [.str sError, .str (u ++ sBase), .non], h2, RV.mono L5 _ _ rv', ⟨a, _, rfl, .inl (.inl addFz_at), RVs.cons (RV.mono L5 _ _ oke) (RVs.cons (RV.mono L5 _ _ oku) (RVs.cons rfl RVs.nil))⟩, R4.newFz ha rfl, ?_⟩
    exact post_ofO (Post.mono L5 p4)
  | _ => exact p2.elim
theorem ok_args (h : Snd W C tr) (G : Good X W E C S) {es : List Expr} {es' : List Z.E} (e : mapO (tr S) es = some es') : Zxs X W E C es es' := mapO_fa (fun a b k => h S X E G a b k) e
theorem ok_name (G : Good X W E C S) {x : Str} {e' : Z.E} (h : trName S x = some e') : Zx X W E C (.Name x pos) e' := by
  have pe : PE X (.Name x pos) (tE W E (evE C e')) := by
    unfold trName at h
    split at h
    · rename_i hv
      split at h
      · rename_i hd
        obtain ⟨i, e1, rfl⟩ := Option.map_eq_some_iff.mp h
        exact zVar (G.slot e1) (G.vis hv) hd.1 hd.2
      · cases h
    · split at h
      · rename_i hg
        obtain ⟨v, e1, rfl⟩ := Option.map_eq_some_iff.mp h
        obtain ⟨u, hu, uu, h1, h2⟩ := G.gs x v e1
        exact zConst (pe_glob (G.gl hg).1 h1 h2 (G.gl hg).2.1) hu
      · cases h
  exact ⟨pe, ptTruth G.K pe (fun _ => rfl), rfl⟩
theorem ok_const (G : Good X W E C S) {c : Const} {k : Nat} {v : PV} (h : trC c = some v) : Zx X W E C (.Constant c k pos) (.cst v) := by
  have pe : PE X (.Constant c k pos) (tE W E (evE C (.cst v))) := by
    cases c with
    | none =>
      cases h
      exact zConst pe_non fun _ => rfl
    | bool b =>
      cases h
      exact zConst pe_bl fun _ => rfl
    | int i =>
      cases h
      exact zConst pe_int fun _ => rfl
    | str s =>
      obtain ⟨g, rfl⟩ := ocond_some h
      simp only [Bool.and_eq_true, decide_eq_true_eq] at g
      refine zConst pe_str fun _ => ⟨by simp, ?_, g.1⟩
      rw [sizeLine_eq]
      have : s.cps.toList.length = s.cps.size := by simp
      omega
    | _ => cases h
  exact ⟨pe, ptTruth G.K pe (fun _ => rfl), rfl⟩
theorem ptIfe {c a b : Expr} {c' a' b' : Z.E} (hc : PT X c (tT W E (tstR (evE C c')))) (ha : PT X a (tT W E (tstR (evE C a')))) (hb : PT X b (tT W E (tstR (evE C b')))) : PT X (.IfExp c a b pos) (tT W E (tstR (evE C (.ife c' a' b')))) := by
  refine ⟨fun pins s σ H Q I ⟨z, ρ, h, re, rh, p⟩ => ?_⟩
  rw [arm_isTrue_IfExp]
  have p' : Post W z E (((evE C c' ρ h).bnd fun x h1 => match tru h1 x with
    | some true => evE C a' ρ h1
    | some false => evE C b' ρ h1
    | none => .stuck).bnd fun v h1 => ofO h1 (tru h1 v)) fun _ b _ H' => Q b H' := p
  have key : tT W E (tstR (evE C c')) σ H fun k H1 => ∃ z1 h1, RE W z1 ρ σ ∧ RH W z1 h1 H1 ∧ Post W z1 E (if k = true then tstR (evE C a') ρ h1 else tstR (evE C b') ρ h1) fun _ b _ H' => Q b H' := by
    refine ⟨z, ρ, h, re, rh, ?_⟩
    show Post W z E ((evE C c' ρ h).bnd fun v h1 => ofO h1 (tru h1 v)) _
    cases q0 : evE C c' ρ h with
    | stuck =>
      rw [q0] at p'
      exact p'
    | exc x h =>
      rw [q0] at p'
      exact p'
    | ok v h1 =>
      rw [q0, Res.bnd_ok] at p'
      rw [Res.bnd_ok]
      cases q : tru h1 v with
      | none =>
        rw [q] at p'
        exact p'
      | some k =>
        rw [q] at p'
        intro z1 H1 l1 R1
        refine ⟨z1, h1, re.mono l1, R1, ?_⟩
        cases k with
        | true => exact Post.mono l1 p'
        | false => exact Post.mono l1 p'
  refine wpAny_bind (thn (hc.run pins s σ H _ I key) fun k s1 ⟨H1, I1, z1, h1, re1, R1, p1⟩ => ?_)
  cases k with
  | true => exact ha.run pins s1 σ H1 Q I1 ⟨z1, ρ, h1, re1, R1, p1⟩
  | false => exact hb.run pins s1 σ H1 Q I1 ⟨z1, ρ, h1, re1, R1, p1⟩
theorem ok_tgt : ∀ (n : Nat) {X : Cx} {W : Sta} {E : XK} {C : Ctx} {S : Sx}, Good X W E C S → ∀ (e : Expr) (t : T), trT n S e = some t → PG X e (tG W t) ∧ isStar e = false
  | 0, _, _, _, _, _, _, _, _, h => by cases h
  | n + 1, X, W, E, C, S, G, e, t, h => by
    unfold trT at h
    split at h
    · obtain ⟨i, e1, e2⟩ := Option.bind_eq_some_iff.mp h
      obtain ⟨hl, rfl⟩ := ocond_some e2
      exact ⟨gOfName G.nd (G.slot e1) (G.loc hl) (G.fn _ hl), rfl⟩
    · rename_i es _ _
      obtain ⟨ts, e1, rfl⟩ := Option.map_eq_some_iff.mp h
      have fa : Fa (fun e t => PG X e (tG W t) ∧ isStar e = false) es ts := mapO_fa (fun a b k => ok_tgt n G a b k) e1
      have gs : ∀ {es : List Expr} {ts : List T}, Fa (fun e t => PG X e (tG W t) ∧ isStar e = false) es ts → PGs X es (tGs W ts) ∧ (assignEach es X.env).length = es.length ∧ (assignEach es X.env).findIdx? (·.1) = none := fun fa => by
        induction fa with
        | nil => exact ⟨gNil, rfl, rfl⟩
        | cons a r ih =>
          refine ⟨gCons a.1 ih.1 a.2, ?_, ?_⟩
          · rename_i e t es ts
            have : assignEach (e :: es) X.env = (false, assign e X.env) :: assignEach es X.env := by
              have := a.2
              cases e <;> first | rfl | cases this
            rw [this, List.length_cons, List.length_cons, ih.2.1]
          · rename_i e t es ts
            have : assignEach (e :: es) X.env = (false, assign e X.env) :: assignEach es X.env := by
              have := a.2
              cases e <;> first | rfl | cases this
            rw [this, List.findIdx?_cons, ih.2.2]
            rfl
      obtain ⟨g1, g2, g3⟩ := gs fa
      exact ⟨gTup G.K G.calm g1 fa.length g2 g3, rfl⟩
    · cases h
theorem ok_iter (h : Snd W C tr) (G : Good X W E C S) {tg e : Expr} {it : Z.I} (k : trI (tr S) S tg e = some it) : PI X tg e (tI W E (evI C it)) ∧ ∀ env x, foldedSetIterable e env x = pure x := by
  unfold trI at k
  split at k
  · rename_i x p a q
    refine ⟨?_, fun _ _ => rfl⟩
    split at k
    · rename_i ex
      subst ex
      obtain ⟨_, e1, e2⟩ := Option.bind_eq_some_iff.mp k
      obtain ⟨c, _⟩ := ocond_some e1
      simp only [btB, Bool.and_eq_true] at c
      obtain ⟨a', e3, rfl⟩ := Option.map_eq_some_iff.mp e2
      exact piRng1 (G.gl c.1).1 (G.bs _ c.2) (h S X E G a a' e3)
    · split at k
      · rename_i ex
        subst ex
        obtain ⟨_, e1, e2⟩ := Option.bind_eq_some_iff.mp k
        obtain ⟨c, _⟩ := ocond_some e1
        simp only [btB, Bool.and_eq_true] at c
        obtain ⟨a', e3, rfl⟩ := Option.map_eq_some_iff.mp e2
        cases tg with
        | Tuple elts kk tp => exact piEnum G.K (G.gl c.1.1).1 (G.bs _ c.1.2) (h S X E G a a' e3)
        | _ => cases c.2
      · obtain ⟨e', e1, rfl⟩ := Option.map_eq_some_iff.mp k
        exact piVal G.K (h S X E G _ _ e1)
  · rename_i x p a b q
    refine ⟨?_, fun _ _ => rfl⟩
    split at k
    · rename_i ex
      subst ex
      obtain ⟨_, e1, e2⟩ := Option.bind_eq_some_iff.mp k
      obtain ⟨c, _⟩ := ocond_some e1
      simp only [btB, Bool.and_eq_true] at c
      obtain ⟨a', e3, e4⟩ := Option.bind_eq_some_iff.mp e2
      obtain ⟨b', e5, rfl⟩ := Option.map_eq_some_iff.mp e4
      exact piRng2 (G.gl c.1).1 (G.bs _ c.2) (h S X E G a a' e3) (h S X E G b b' e5)
    · split at k
      · rename_i ex
        subst ex
        obtain ⟨_, e1, e2⟩ := Option.bind_eq_some_iff.mp k
        obtain ⟨c, _⟩ := ocond_some e1
        simp only [btB, Bool.and_eq_true] at c
        obtain ⟨a', e3, e4⟩ := Option.bind_eq_some_iff.mp e2
        obtain ⟨b', e5, rfl⟩ := Option.map_eq_some_iff.mp e4
        cases tg with
        | Tuple elts kk tp => exact piZip G.K (G.gl c.1.1).1 (G.bs _ c.1.2) (h S X E G a a' e3) (h S X E G b b' e5)
        | _ => cases c.2
      · obtain ⟨e', e1, rfl⟩ := Option.map_eq_some_iff.mp k
        exact piVal G.K (h S X E G _ _ e1)
  · cases k
  · rename_i n1 n2 n3
    obtain ⟨e', e1, rfl⟩ := Option.map_eq_some_iff.mp k
    refine ⟨piVal G.K (h S X E G _ _ e1), fun env x => ?_⟩
    cases e <;> first | rfl | (exfalso; exact n3 _ _ _ rfl)
end
end Z
-- Z20
set_option Elab.async false
set_option linter.all false
set_option maxRecDepth 100000
set_option maxHeartbeats 2000000
/-! Layer Z, part 20: the translation of expressions is sound, the rest. -/
namespace Z
open PySem PySem.Spec PyProof.Rows L2
section
variable {X : Cx} {W : Sta} {E : XK} {C : Ctx} {S : Sx} {pos : Pos} {tr : Sx → Expr → Option Z.E}
/-- what a comprehension is made of -/
structure CompOk (X : Cx) (W : Sta) (E : XK) (C : Ctx) (elt : Expr) (gs : List Comprehension) (scope : Scope) (a : Z.A) : Prop where
  ex : (∃ tg iter ifs own t it fs el, gs = [⟨tg, iter, ifs, 0⟩] ∧ a = .comp (own.map (·.2)) el t it fs ∧ BlkOk X.N X.env.scope scope own ∧ (∀ i ∈ t.slots, i ∈ own.map (·.2)) ∧ PI X tg iter (tI W E (evI C it)) ∧ (∀ env x, foldedSetIterable iter env x = pure x) ∧
      (∀ (s : Shared) (H : Hp) (CC : Addr) (cl : List (Str × Addr)) (fp : List Addr), PG (X.blk s H scope (compEnvC scope cl CC X.env) fp) tg (tG W t)) ∧
      (∀ (s : Shared) (H : Hp) (CC : Addr) (cl : List (Str × Addr)) (fp : List Addr), PTs (X.blk s H scope (compEnvC scope cl CC X.env) fp) ifs (tT W E0' (evIfs C fs))) ∧
      (∀ (s : Shared) (H : Hp) (CC : Addr) (cl : List (Str × Addr)) (fp : List Addr), PE (X.blk s H scope (compEnvC scope cl CC X.env) fp) elt (tE W E0' (evE C el)))) ∨
    (∃ tg iter tg2 iter2 ifs own t it t2 it2 fs el, gs = [⟨tg, iter, [], 0⟩, ⟨tg2, iter2, ifs, 0⟩] ∧ a = .comp2 (own.map (·.2)) el t it t2 it2 fs ∧ BlkOk X.N X.env.scope scope own ∧ (∀ i ∈ t.slots, i ∈ own.map (·.2)) ∧ (∀ i ∈ t2.slots, i ∈ own.map (·.2)) ∧ PI X tg iter (tI W E (evI C it)) ∧ (∀ env x, foldedSetIterable iter env x = pure x) ∧
      (∀ (s : Shared) (H : Hp) (CC : Addr) (cl : List (Str × Addr)) (fp : List Addr), PG (X.blk s H scope (compEnvC scope cl CC X.env) fp) tg (tG W t)) ∧
      (∀ (s : Shared) (H : Hp) (CC : Addr) (cl : List (Str × Addr)) (fp : List Addr), PI (X.blk s H scope (compEnvC scope cl CC X.env) fp) tg2 iter2 (tI W E0' (evI C it2))) ∧ (∀ env x, foldedSetIterable iter2 env x = pure x) ∧
      (∀ (s : Shared) (H : Hp) (CC : Addr) (cl : List (Str × Addr)) (fp : List Addr), PG (X.blk s H scope (compEnvC scope cl CC X.env) fp) tg2 (tG W t2)) ∧
      (∀ (s : Shared) (H : Hp) (CC : Addr) (cl : List (Str × Addr)) (fp : List Addr), PTs (X.blk s H scope (compEnvC scope cl CC X.env) fp) ifs (tT W E0' (evIfs C fs))) ∧
      (∀ (s : Shared) (H : Hp) (CC : Addr) (cl : List (Str × Addr)) (fp : List Addr), PE (X.blk s H scope (compEnvC scope cl CC X.env) fp) elt (tE W E0' (evE C el))))
theorem all_mem {xs : List Nat} {ys : List Nat} (h : (xs.all fun i => decide (i ∈ ys)) = true) : ∀ i ∈ xs, i ∈ ys := fun i hi => of_decide_eq_true (List.all_eq_true.mp h i hi)
theorem ok_comp (h : Snd W C tr) (G : Good X W E C S) {elt : Expr} {gs : List Comprehension} {scope : Scope} {a : Z.A} (k : trComp tr S elt gs scope = some a) : CompOk X W E C elt gs scope a := by
  unfold trComp at k
  split at k
  · rename_i tg iter ifs
    obtain ⟨it, e1, k⟩ := Option.bind_eq_some_iff.mp k
    obtain ⟨t, e2, k⟩ := Option.bind_eq_some_iff.mp k
    obtain ⟨fs, e3, k⟩ := Option.bind_eq_some_iff.mp k
    obtain ⟨el, e4, k⟩ := Option.bind_eq_some_iff.mp k
    obtain ⟨c, rfl⟩ := ocond_some k
    simp only [Bool.and_eq_true, decide_eq_true_eq] at c
    have ok : BlkOk X.N X.env.scope scope (ownOf S.N scope) := by
      rw [G.N, G.sc]
      exact blkOk_by c.1.1
    obtain ⟨i1, i2⟩ := ok_iter h G e1
    refine ⟨.inl ⟨tg, iter, ifs, ownOf S.N scope, t, it, fs, el, rfl, rfl, ok, all_mem c.1.2, i1, i2, fun s H CC cl fp => ?_, fun s H CC cl fp => ?_, fun s H CC cl fp => ?_⟩⟩
    · exact (ok_tgt 8 (blkGood G ok.kind s H CC cl fp) tg t e2).1
    · exact ifsT (ok_args h (blkGood G ok.kind s H CC cl fp) e3) c.2
    · exact (h _ _ _ (blkGood G ok.kind s H CC cl fp) elt el e4).pe
  · rename_i tg iter tg2 iter2 ifs
    obtain ⟨it, e1, k⟩ := Option.bind_eq_some_iff.mp k
    obtain ⟨t, e2, k⟩ := Option.bind_eq_some_iff.mp k
    obtain ⟨it2, e5, k⟩ := Option.bind_eq_some_iff.mp k
    obtain ⟨t2, e6, k⟩ := Option.bind_eq_some_iff.mp k
    obtain ⟨fs, e3, k⟩ := Option.bind_eq_some_iff.mp k
    obtain ⟨el, e4, k⟩ := Option.bind_eq_some_iff.mp k
    obtain ⟨c, rfl⟩ := ocond_some k
    simp only [Bool.and_eq_true, decide_eq_true_eq] at c
    have ok : BlkOk X.N X.env.scope scope (ownOf S.N scope) := by
      rw [G.N, G.sc]
      exact blkOk_by c.1.1.1
    obtain ⟨i1, i2⟩ := ok_iter h G e1
    refine ⟨.inr ⟨tg, iter, tg2, iter2, ifs, ownOf S.N scope, t, it, t2, it2, fs, el, rfl, rfl, ok, all_mem c.1.1.2, all_mem c.1.2, i1, i2, fun s H CC cl fp => ?_, fun s H CC cl fp => ?_, ?_, fun s H CC cl fp => ?_, fun s H CC cl fp => ?_, fun s H CC cl fp => ?_⟩⟩
    · exact (ok_tgt 8 (blkGood G ok.kind s H CC cl fp) tg t e2).1
    · exact (ok_iter h (blkGood G ok.kind s H CC cl fp) e5).1
    · obtain ⟨s, H, CC, cl, fp⟩ : ∃ (s : Shared) (H : Hp) (CC : Addr) (cl : List (Str × Addr)) (fp : List Addr), True := ⟨X.s_0, X.H_0, 0, [], [], trivial⟩
      exact (ok_iter h (blkGood G ok.kind X.s_0 X.H_0 0 [] []) e5).2
    · exact (ok_tgt 8 (blkGood G ok.kind s H CC cl fp) tg2 t2 e6).1
    · exact ifsT (ok_args h (blkGood G ok.kind s H CC cl fp) e3) c.2
    · exact (h _ _ _ (blkGood G ok.kind s H CC cl fp) elt el e4).pe
  · cases k
/-- the comprehension as an expression that makes something new -/
theorem CompOk.pe (G : Good X W E C S) {elt : Expr} {gs : List Comprehension} {scope : Scope} {a : Z.A} (k : CompOk X W E C elt gs scope a) : PE X (.ListComp elt gs scope pos) (tAl W E (evA C a)) := by
  rcases k.ex with ⟨tg, iter, ifs, own, t, it, fs, el, rfl, rfl, ok, sl, i1, i2, g, tt, te⟩ | ⟨tg, iter, tg2, iter2, ifs, own, t, it, t2, it2, fs, el, rfl, rfl, ok, sl, sl2, i1, i2, g, i3, i4, g2, tt, te⟩
  · exact (pe_lc G.calm G.nd i1 ok g tt te (i2 _)).imp fun σ H Q q => lcZ sl q
  · exact (pe_lc2 G.calm G.nd i1 ok sl2 g (fun _ _ _ _ _ => pts_nil) i3 g2 tt te (i2 _) i4).imp fun σ H Q q => lc2Z sl q
theorem trKey_ok {k : Option Expr} {v : PV} (e : trKey k = some v) : (∃ c j p, k = some (.Constant c j p) ∧ PE X (.Constant c j p) (tC (L2.kV (keyD v)))) ∧ ∀ z, RV W z v (L2.kV (keyD v)) := by
  unfold trKey at e
  split at e
  · rename_i c j p
    obtain ⟨u, e1, e2⟩ := Option.bind_eq_some_iff.mp e
    obtain ⟨kk, rfl⟩ := ocond_some e2
    cases c with
    | int i =>
      cases e1
      exact ⟨⟨_, _, _, rfl, pe_int⟩, fun _ => rfl⟩
    | str s =>
      obtain ⟨g, rfl⟩ := ocond_some e1
      simp only [Bool.and_eq_true, decide_eq_true_eq] at g
      have es : toS s.cps.toList = s := by simp
      refine ⟨⟨_, _, _, rfl, ?_⟩, fun _ => ⟨rfl, ?_, g.1⟩⟩
      · show PE X _ (tC (V.str (toS s.cps.toList)))
        rw [es]
        exact pe_str
      · rw [sizeLine_eq]
        have : s.cps.toList.length = s.cps.size := by simp
        omega
    | none =>
      cases e1
      cases kk
    | bool b =>
      cases e1
      cases kk
    | _ => cases e1
  · cases e
theorem trKey_rv {k : Option Expr} {v : PV} (e : trKey k = some v) (z : Zn) : RV W z v (L2.kV (keyD v)) := by
  unfold trKey at e
  split at e
  · rename_i c j p
    obtain ⟨u, e1, e2⟩ := Option.bind_eq_some_iff.mp e
    obtain ⟨kk, rfl⟩ := ocond_some e2
    cases c with
    | int i =>
      cases e1
      rfl
    | str s =>
      obtain ⟨g, rfl⟩ := ocond_some e1
      simp only [Bool.and_eq_true, decide_eq_true_eq] at g
      refine ⟨rfl, ?_, g.1⟩
      rw [sizeLine_eq]
      have : s.cps.toList.length = s.cps.size := by simp
      omega
    | none =>
      cases e1
      cases kk
    | bool b =>
      cases e1
      cases kk
    | _ => cases e1
  · cases e
theorem keys_rv : ∀ {keys : List (Option Expr)} {ks : List PV}, Fa (fun k v => trKey k = some v) keys ks → ∀ z, RVs W z ks ((ks.map keyD).map L2.kV)
  | _, _, .nil, _ => RVs.nil
  | _, _, .cons a r, z => RVs.cons (trKey_rv a z) (keys_rv r z)
theorem Fa.imp {α β : Type} {R T : α → β → Prop} (i : ∀ a b, R a b → T a b) : ∀ {as : List α} {bs : List β}, Fa R as bs → Fa T as bs
  | _, _, .nil => .nil
  | _, _, .cons a r => .cons (i _ _ a) (Fa.imp i r)
theorem ok_new (h : Snd W C tr) (G : Good X W E C S) {e : Expr} {a : Z.A} (k : trA tr S e = some a) : PE X e (tAl W E (evA C a)) ∧ isStar e = false ∧ ∀ whole, isTrue e X.env whole = (do let v ← whole; standAt e.pos; holding [v] (truthy v)) := by
  unfold trA at k
  split at k
  · obtain ⟨es', e1, k⟩ := Option.bind_eq_some_iff.mp k
    obtain ⟨c, rfl⟩ := ocond_some k
    exact ⟨zDisp (zArgs (ok_args h G e1)) (of_decide_eq_true c), rfl, fun _ => rfl⟩
  · exact ⟨(ok_comp h G k).pe G, rfl, fun _ => rfl⟩
  · cases k
    exact ⟨zDict0, rfl, fun _ => rfl⟩
  · obtain ⟨ks, e1, k⟩ := Option.bind_eq_some_iff.mp k
    obtain ⟨es', e2, k⟩ := Option.bind_eq_some_iff.mp k
    obtain ⟨c, rfl⟩ := ocond_some k
    simp only [Bool.and_eq_true, decide_eq_true_eq, Bool.not_eq_true'] at c
    obtain ⟨⟨⟨c1, c2⟩, c3⟩, c4⟩ := c
    have fa : Fa (fun k v => trKey k = some v) _ ks := mapO_fa (fun _ _ q => q) e1
    refine ⟨zDdisp (Fa.imp (fun a b q => (trKey_ok (W := W) q).1) fa) (keys_rv fa) (ok_args h G e2) c1 ?_ c2 c4, rfl, fun _ => rfl⟩
    intro q
    rw [q] at c3
    cases c3
  · split at k
    · rename_i ex
      subst ex
      obtain ⟨_, e1, e2⟩ := Option.bind_eq_some_iff.mp k
      obtain ⟨c, _⟩ := ocond_some e1
      simp only [btB, Bool.and_eq_true] at c
      obtain ⟨a', e3, rfl⟩ := Option.map_eq_some_iff.mp e2
      exact ⟨zListof G.K (G.gl c.1).1 (G.bs _ c.2) (h S X E G _ _ e3), rfl, fun _ => rfl⟩
    · cases k
  · cases k
theorem biOf_name {x : Str} {b : BI} (e : biOf x = some b) : x = biName b ∧ b ≠ .sum ∧ b ≠ .repr := by
  unfold biOf biTab at e
  simp only [List.lookup_cons, List.lookup_nil] at e
  repeat (split at e <;> first | (rename_i q; cases e; exact ⟨eq_of_beq q, by decide, by decide⟩) | skip)
  all_goals cases e
theorem tyOfN_name {x : Str} {t : Ty} (e : tyOfN x = some t) : bootBuiltins x = some (.type (tyName t)) := by
  unfold tyOfN tyTab at e
  simp only [List.lookup_cons, List.lookup_nil] at e
  repeat (split at e <;> first | (rename_i q; cases e; rw [eq_of_beq q]; decide +kernel) | skip)
  all_goals cases e
theorem ok_bi (h : Snd W C tr) (G : Good X W E C S) {x : Str} {p : Pos} {es : List Expr} {e' : Z.E} (k : trBi (tr S) S x es = some e') : PE X (.Call (.Name x p) es [] pos) (tE W E (evE C e')) := by
  unfold trBi at k
  split at k
  · rename_i ex
    subst ex
    split at k
    · rename_i a t q
      obtain ⟨a', e1, k⟩ := Option.bind_eq_some_iff.mp k
      obtain ⟨ty, e2, k⟩ := Option.bind_eq_some_iff.mp k
      obtain ⟨c, rfl⟩ := ocond_some k
      simp only [btB, Bool.and_eq_true] at c
      have za := h S X E G a a' e1
      exact zIsi G.K za.pe (G.gl c.1.1).1 (G.bs _ c.1.2) (G.gl c.2.1).1 (G.bs _ c.2.2) (tyOfN_name e2) (G.gl c.2.1).2.2 (G.gl c.2.1).2.1 (starNo za.ns)
    · cases k
  · obtain ⟨b, e1, k⟩ := Option.bind_eq_some_iff.mp k
    obtain ⟨es', e2, k⟩ := Option.bind_eq_some_iff.mp k
    obtain ⟨c, rfl⟩ := ocond_some k
    simp only [btB, Bool.and_eq_true] at c
    obtain ⟨rfl, hb⟩ := biOf_name e1
    cases es with
    | nil => cases c.2
    | cons e es => exact zBi G.K G.calm b (G.gl c.1.1).1 (G.bs _ c.1.2) (ok_args h G e2) hb
end
end Z
-- Z21
set_option Elab.async false
set_option linter.all false
set_option maxRecDepth 100000
set_option maxHeartbeats 2000000
/-! Layer Z, part 21: the translation of expressions is sound, all of it. -/
namespace Z
open PySem PySem.Spec PyProof.Rows L2
section
variable {X : Cx} {W : Sta} {E : XK} {C : Ctx} {S : Sx} {pos : Pos} {tr : Sx → Expr → Option Z.E}
theorem mTab_cases {name : Str} {n : Nat} {q : Nat} (e : mTab.lookup (name, n) = some q) : (name = "append" ∧ n = 1 ∧ q = 1) ∨ (name = "extend" ∧ n = 1 ∧ q = 2) ∨ (name = "pop" ∧ n = 0 ∧ q = 3) ∨ (name = "join" ∧ n = 1 ∧ q = 8) ∨ (name = "get" ∧ n = 2 ∧ q = 7) ∨ (name = "pop" ∧ n = 1 ∧ q = 10) := by
  unfold mTab at e
  simp only [List.lookup_cons, List.lookup_nil] at e
  have un : ∀ {a : Str} {b : Nat}, ((name, n) == (a, b)) = true → name = a ∧ n = b := fun k => by
    have := eq_of_beq k
    exact ⟨congrArg Prod.fst this, congrArg Prod.snd this⟩
  split at e
  · rename_i k
    cases e
    exact .inl ⟨(un k).1, (un k).2, rfl⟩
  · split at e
    · rename_i k
      cases e
      exact .inr (.inl ⟨(un k).1, (un k).2, rfl⟩)
    · split at e
      · rename_i k
        cases e
        exact .inr (.inr (.inl ⟨(un k).1, (un k).2, rfl⟩))
      · split at e
        · rename_i k
          cases e
          exact .inr (.inr (.inr (.inl ⟨(un k).1, (un k).2, rfl⟩)))
        · split at e
          · rename_i k
            cases e
            exact .inr (.inr (.inr (.inr (.inl ⟨(un k).1, (un k).2, rfl⟩))))
          · split at e
            · rename_i k
              cases e
              exact .inr (.inr (.inr (.inr (.inr ⟨(un k).1, (un k).2, rfl⟩))))
            · cases e
theorem ok_meth (h : Snd W C tr) (G : Good X W E C S) {o : Expr} {name : Str} {ap : Pos} {es : List Expr} {e' : Z.E} (k : trMeth (tr S) o name es ap pos = some e') : PE X (.Call (.Attribute o name ap) es [] pos) (tE W E (evE C e')) := by
  unfold trMeth at k
  obtain ⟨q, e1, k⟩ := Option.bind_eq_some_iff.mp k
  obtain ⟨o', e2, k⟩ := Option.bind_eq_some_iff.mp k
  obtain ⟨es', e3, k⟩ := Option.bind_eq_some_iff.mp k
  obtain ⟨c, rfl⟩ := ocond_some k
  simp only [Bool.and_eq_true, Bool.not_eq_true'] at c
  have zo := h S X E G o o' e2
  have za := ok_args h G e3
  have one : es.length = 1 → ∃ e e', es = [e] ∧ es' = [e'] ∧ Zx X W E C e e' := fun l => by
    cases za with
    | nil => cases l
    | cons a r =>
      cases r with
      | nil => exact ⟨_, _, rfl, rfl, a⟩
      | cons _ _ => simp at l
  have two : es.length = 2 → ∃ e e' d d', es = [e, d] ∧ es' = [e', d'] ∧ Zx X W E C e e' ∧ Zx X W E C d d' := fun l => by
    cases za with
    | nil => cases l
    | cons a r =>
      cases r with
      | nil => cases l
      | cons b r =>
        cases r with
        | nil => exact ⟨_, _, _, _, rfl, rfl, a, b⟩
        | cons _ _ => simp at l
  rcases mTab_cases e1 with ⟨rfl, l, rfl⟩ | ⟨rfl, l, rfl⟩ | ⟨rfl, l, rfl⟩ | ⟨rfl, l, rfl⟩ | ⟨rfl, l, rfl⟩ | ⟨rfl, l, rfl⟩
  · obtain ⟨e, e', rfl, rfl, ze⟩ := one l
    exact zMeth1 G.K PySem.F.plainAttrs_list PySem.F.slot_list_append PySem.F.type_list_append mtAppend zo ze c.1 c.2
  · obtain ⟨e, e', rfl, rfl, ze⟩ := one l
    exact zMeth1 G.K PySem.F.plainAttrs_list PySem.F.slot_list_extend PySem.F.type_list_extend mtExtend zo ze c.1 c.2
  · cases za with
    | nil => exact zMeth0 G.K PySem.F.plainAttrs_list PySem.F.slot_list_pop PySem.F.type_list_pop mtPop zo c.1 c.2
    | cons _ _ => cases l
  · obtain ⟨e, e', rfl, rfl, ze⟩ := one l
    exact zMeth1 G.K PySem.F.plainAttrs_str PySem.F.slot_str_join PySem.F.type_str_join (mtJoin G.K) zo ze c.1 c.2
  · obtain ⟨e, e', d, d', rfl, rfl, ze, zd⟩ := two l
    exact zMeth2 G.K PySem.F.plainAttrs_dict PySem.F.slot_dict_get PySem.F.type_dict_get (mtGet G.hu) zo ze zd c.1 c.2
  · obtain ⟨e, e', rfl, rfl, ze⟩ := one l
    exact zMeth1 G.K PySem.F.plainAttrs_dict PySem.F.slot_dict_pop PySem.F.type_dict_pop mtDPop zo ze c.1 c.2
theorem ok_call (h : Snd W C tr) (G : Good X W E C S) {f : Expr} {es : List Expr} {e' : Z.E} (k : trCall (tr S) S f es pos = some e') : PE X (.Call f es [] pos) (tE W E (evE C e')) := by
  unfold trCall at k
  split at k
  · split at k
    · rename_i q eq
      obtain ⟨es', e1, k⟩ := Option.bind_eq_some_iff.mp k
      obtain ⟨c, rfl⟩ := ocond_some k
      simp only [Bool.and_eq_true, decide_eq_true_eq] at c
      exact zCall (G.fs _ _ _ eq) (G.gl c.1).1 (G.gl c.1).2.1 (ok_args h G e1) c.2
    · exact ok_bi h G k
  · exact ok_meth h G k
  · cases k
theorem ok_part (h : Snd W C tr) (G : Good X W E C S) {lo : Option Expr} {a : List Z.E} (k : trP (tr S) lo = some a) : slPart C a lo X W E := by
  cases lo with
  | none =>
    cases k
    trivial
  | some e =>
    obtain ⟨e', e1, rfl⟩ := Option.map_eq_some_iff.mp k
    exact (h S X E G e e' e1).pe
theorem Zx.gen (G : Good X W E C S) {e : Expr} {e' : Z.E} (ht : ∀ whole, isTrue e X.env whole = (do let v ← whole; standAt e.pos; holding [v] (truthy v))) (ns : isStar e = false) (pe : PE X e (tE W E (evE C e'))) : Zx X W E C e e' := ⟨pe, ptTruth G.K pe ht, ns⟩
theorem alWrap {a : Z.A} {e : Expr} (hp : PE X e (tAl W E (evA C a))) : PE X e (tE W E (evE C (wrapA S a))) := by
  unfold wrapA
  cases S.deep with
  | true => exact alMut hp
  | false => exact alFrz hp
theorem ok_step (h : Snd W C tr) : Snd W C (trEF tr) := by
  intro S X E G e e' k
  unfold trEF at k
  split at k
  · exact ok_name G k
  · obtain ⟨v, e1, rfl⟩ := Option.map_eq_some_iff.mp k
    exact ok_const G e1
  · obtain ⟨es', e1, k⟩ := Option.bind_eq_some_iff.mp k
    obtain ⟨c, rfl⟩ := ocond_some k
    exact Zx.gen G (fun _ => rfl) rfl (zTup (zArgs (ok_args h G e1)) (of_decide_eq_true c))
  · obtain ⟨o', e1, k⟩ := Option.bind_eq_some_iff.mp k
    obtain ⟨a', e2, k⟩ := Option.bind_eq_some_iff.mp k
    obtain ⟨b', e3, rfl⟩ := Option.map_eq_some_iff.mp k
    obtain rfl := bopOf_eq e1
    exact Zx.gen G (fun _ => rfl) rfl (zBin G.K o' (h S X E G _ _ e2).pe (h S X E G _ _ e3).pe)
  · obtain ⟨a', e1, rfl⟩ := Option.map_eq_some_iff.mp k
    have z := h S X E G _ _ e1
    exact ⟨zNot G.K z.pe, zNotPT z.pt, rfl⟩
  · obtain ⟨a', e1, rfl⟩ := Option.map_eq_some_iff.mp k
    exact Zx.gen G (fun _ => rfl) rfl (zNeg (h S X E G _ _ e1).pe)
  · obtain ⟨o', e1, k⟩ := Option.bind_eq_some_iff.mp k
    obtain ⟨a', e2, k⟩ := Option.bind_eq_some_iff.mp k
    obtain ⟨b', e3, k⟩ := Option.bind_eq_some_iff.mp k
    obtain ⟨c, rfl⟩ := ocond_some k
    obtain rfl := copOf_eq e1
    have c' : behindInMarks (cmpOf o') _ = false := (Bool.not_eq_true' _).mp c
    exact ⟨zCmp G.K G.hu o' (h S X E G _ _ e2).pe (h S X E G _ _ e3).pe c', zCmpPT G.K G.hu o' (h S X E G _ _ e2).pe (h S X E G _ _ e3).pe c', rfl⟩
  · obtain ⟨o', e1, k⟩ := Option.bind_eq_some_iff.mp k
    obtain ⟨p', e2, k⟩ := Option.bind_eq_some_iff.mp k
    obtain ⟨a', e3, k⟩ := Option.bind_eq_some_iff.mp k
    obtain ⟨b', e4, k⟩ := Option.bind_eq_some_iff.mp k
    obtain ⟨c', e5, k⟩ := Option.bind_eq_some_iff.mp k
    obtain ⟨c, rfl⟩ := ocond_some k
    obtain rfl := copOf_eq e1
    obtain rfl := copOf_eq e2
    have c2 := (Bool.not_eq_true' _).mp c
    have za := (h S X E G _ _ e3).pe
    have zb := (h S X E G _ _ e4).pe
    have zc := (h S X E G _ _ e5).pe
    refine ⟨zChain G.K G.hu o' p' za zb zc c2, ?_, rfl⟩
    exact zCmpT (pt_chain (opCmp (E := E) G.K G.hu o') (opCmp (E := E) G.K G.hu p') za zb zc c2) (fun σ H Q q => chainT q) chain_bl
  · obtain ⟨es', e1, k⟩ := Option.bind_eq_some_iff.mp k
    obtain ⟨c, rfl⟩ := ocond_some k
    have ne : ∀ q : List Expr, (!q.isEmpty) = true → q ≠ [] := fun q k e => by
      rw [e] at k
      cases k
    exact ⟨(zAnd G.K (ok_args h G e1) (ne _ c)).1, (zAnd G.K (ok_args h G e1) (ne _ c)).2.pt, rfl⟩
  · obtain ⟨es', e1, k⟩ := Option.bind_eq_some_iff.mp k
    obtain ⟨c, rfl⟩ := ocond_some k
    have ne : ∀ q : List Expr, (!q.isEmpty) = true → q ≠ [] := fun q k e => by
      rw [e] at k
      cases k
    exact ⟨(zOr G.K (ok_args h G e1) (ne _ c)).1, (zOr G.K (ok_args h G e1) (ne _ c)).2.pt, rfl⟩
  · obtain ⟨c', e1, k⟩ := Option.bind_eq_some_iff.mp k
    obtain ⟨a', e2, k⟩ := Option.bind_eq_some_iff.mp k
    obtain ⟨b', e3, rfl⟩ := Option.map_eq_some_iff.mp k
    have zc := h S X E G _ _ e1
    have za := h S X E G _ _ e2
    have zb := h S X E G _ _ e3
    exact ⟨zIfe zc.pt za.pe zb.pe, ptIfe zc.pt za.pt zb.pt, rfl⟩
  · obtain ⟨a', e1, k⟩ := Option.bind_eq_some_iff.mp k
    obtain ⟨lo', e2, k⟩ := Option.bind_eq_some_iff.mp k
    obtain ⟨hi', e3, rfl⟩ := Option.map_eq_some_iff.mp k
    exact Zx.gen G (fun _ => rfl) rfl (zSlc G.K (h S X E G _ _ e1).pe (ok_part h G e2) (ok_part h G e3))
  · obtain ⟨a', e1, k⟩ := Option.bind_eq_some_iff.mp k
    obtain ⟨b', e2, k⟩ := Option.bind_eq_some_iff.mp k
    obtain ⟨c, rfl⟩ := ocond_some k
    have c' := (Bool.not_eq_true' _).mp c
    exact Zx.gen G (fun _ => rfl) rfl (zSub G.K G.hu (h S X E G _ _ e1).pe (h S X E G _ _ e2).pe (plainIx_of c'))
  · obtain ⟨a, e1, rfl⟩ := Option.map_eq_some_iff.mp k
    obtain ⟨n1, n2, n3⟩ := ok_new h G e1
    have pe := alWrap (S := S) n1
    exact ⟨pe, ptTruth G.K pe n3, n2⟩
  · obtain ⟨a, e1, rfl⟩ := Option.map_eq_some_iff.mp k
    obtain ⟨n1, n2, n3⟩ := ok_new h G e1
    have pe := alWrap (S := S) n1
    exact ⟨pe, ptTruth G.K pe n3, n2⟩
  · obtain ⟨a, e1, rfl⟩ := Option.map_eq_some_iff.mp k
    obtain ⟨n1, n2, n3⟩ := ok_new h G e1
    have pe := alWrap (S := S) n1
    exact ⟨pe, ptTruth G.K pe n3, n2⟩
  · split at k
    · rename_i ex
      subst ex
      obtain ⟨_, e1, e2⟩ := Option.bind_eq_some_iff.mp k
      obtain ⟨c, _⟩ := ocond_some e1
      simp only [Bool.and_eq_true] at c
      obtain ⟨⟨⟨c1, c2⟩, c3⟩, c4⟩ := c
      obtain ⟨b, e3, rfl⟩ := Option.map_eq_some_iff.mp e2
      rw [noArgs_eq c2]
      exact Zx.gen G (fun _ => rfl) rfl (zLam h G c1 (G.gl c3).1 (LamX.lamS_by (by rw [G.sc]; exact c4)) e3)
    · cases k
  · split at k
    · rename_i ex
      subst ex
      obtain ⟨_, e1, e2⟩ := Option.bind_eq_some_iff.mp k
      obtain ⟨c, _⟩ := ocond_some e1
      simp only [Bool.and_eq_true] at c
      obtain ⟨⟨⟨⟨c1, c0⟩, c2⟩, c3⟩, c4⟩ := c
      obtain ⟨b, e3, e4⟩ := Option.bind_eq_some_iff.mp e2
      obtain ⟨w, e5, rfl⟩ := Option.map_eq_some_iff.mp e4
      rw [noArgs_eq c2]
      exact Zx.gen G (fun _ => rfl) rfl (zLamR h G c1 c0 (G.gl c3).1 (LamX.lamS_by (by rw [G.sc]; exact c4)) e3 (h S X E G _ _ e5))
    · cases k
  · split at k
    · rename_i a e1
      cases k
      obtain ⟨n1, n2, n3⟩ := ok_new h G e1
      have pe := alWrap (S := S) n1
      exact ⟨pe, ptTruth G.K pe n3, n2⟩
    · have pe := ok_call h G k
      exact ⟨pe, ptTruth G.K pe (fun _ => rfl), rfl⟩
  · cases k
theorem ok_expr (W : Sta) (C : Ctx) : ∀ n, Snd W C (trE n)
  | 0 => fun _ _ _ _ _ _ h => by cases h
  | n + 1 => ok_step (ok_expr W C n)
end
end Z
-- Z22
set_option Elab.async false
set_option linter.all false
set_option maxRecDepth 100000
set_option maxHeartbeats 2000000
/-! Layer Z, part 22: the translation of statements, and that it is sound. -/
namespace Z
open PySem PySem.Spec PyProof.Rows L2
def isComp : Expr → Bool
  | .ListComp _ _ _ _ => true
  | .SetComp _ _ _ _ => true
  | .DictComp _ _ _ _ _ => true
  | _ => false
def swB (S : Sx) (x : Str) (px : Pos) (scope : Scope) (p : Pos) : Bool := (kindB S x == some .local) && px.line == p.line && !(scope.names.any fun (n, k) => n == x && (k == .local || k == .cell))
def swapN (sc : Scope) (line : Nat) (ts : List Expr) : List Str := ts.filterMap fun
  | .Name id pos => if sc.names.lookup id == some .local && pos.line == line then some id else none
  | _ => none
def swapO (sc : Scope) (ts vs : List Expr) : Option (Option (List Str)) :=
  if (!(ts.length == 2 || ts.length == 3) || vs.length != ts.length) = true then some none
  else if (vs.any fun | .Starred .. => true | _ => false) = true then some none
  else if ((swapN sc ((ts.head?.map (·.pos.line)).getD 0) ts).length != ts.length || (swapN sc ((ts.head?.map (·.pos.line)).getD 0) ts).eraseDups.length != (swapN sc ((ts.head?.map (·.pos.line)).getD 0) ts).length) = true then some none
  else if (vs.all (foldedForSure 8)) = true then some none
  else if (vs.all (constantsAlone 8)) = true then none
  else some (some (swapN sc ((ts.head?.map (·.pos.line)).getD 0) ts))
section
variable {X : Cx} {W : Sta} {E : XK} {C : Ctx} {S : Sx} {pos : Pos} {tr : Sx → Expr → Option Z.E}
theorem swB_ok (G : Good X W E C S) {elt : Expr} {gs : List Comprehension} {scope : Scope} {p px : Pos} {x : Str} {l : Nat} : swapsWith (.ListComp elt gs scope p) (some (.Name x px)) l X.env = pure (swB S x px scope p) := by
  have hb : X.env.blockKind = .function := by
    unfold Env.blockKind
    rw [G.kd]
    rfl
  have kx : X.env.kindOf x = kindB S x := by
    unfold Env.kindOf kindB
    rw [G.sc]
  unfold swapsWith swB
  simp only [hb, kx, Expr.pos]
  rfl
theorem swap_none {e : Expr} (h : isComp e = false) (t : Option Expr) (l : Nat) : swapsWith e t l X.env = pure false := by
  cases e <;> first | rfl | cases h
theorem swapO_ok (G : Good X W E C S) {ts vs : List Expr} {k k2 : Nat} {p p2 : Pos} {r : Option (List Str)} (h : swapO S.sc ts vs = some r) : swappedStores [.Tuple ts k p] (.Tuple vs k2 p2) X.env = pure r := by
  have hb : X.env.blockKind = .function := by
    unfold Env.blockKind
    rw [G.kd]
    rfl
  rw [← G.sc] at h
  unfold swapO at h
  unfold swappedStores
  simp only [hb]
  split at h
  · cases h
    rename_i c
    have c2 : (!(ts.length == 2 || ts.length == 3) || vs.length != ts.length || (ScopeKind.function != ScopeKind.function)) = true := by simp_all
    exact if_pos c2
  · rename_i c
    have c2 : ¬ (!(ts.length == 2 || ts.length == 3) || vs.length != ts.length || (ScopeKind.function != ScopeKind.function)) = true := by simp_all
    refine (if_neg c2).trans ?_
    split at h
    · cases h
      rename_i c3
      exact if_pos c3
    · rename_i c3
      refine (if_neg c3).trans ?_
      split at h
      · cases h
        rename_i c4
        exact if_pos c4
      · rename_i c4
        refine (if_neg c4).trans ?_
        split at h
        · cases h
          rename_i c5
          exact if_pos c5
        · rename_i c5
          refine (if_neg c5).trans ?_
          split at h
          · cases h
          · cases h
            rename_i c6
            exact if_neg c6
end
end Z
-- Z23
set_option Elab.async false
set_option linter.all false
set_option maxRecDepth 100000
set_option maxHeartbeats 2000000
/-! Layer Z, part 23: statements. -/
namespace Z
open PySem PySem.Spec PyProof.Rows L2
/-- what is stored in a slot -/
def trSto (m : Nat) (S : Sx) (i : Nat) (e : Expr) : Option E := if i ∈ S.mu then (match trA (trE m) S e with
  | some a => some (.mut a)
  | none => trE m S e) else trE m S e
def trV (m : Nat) (S : Sx) (t : Expr) (v : Expr) : Option E := match t with
  | .Name x _ => (slotB S x).bind fun i => trSto m S i v
  | _ => trE m S v
def trVs (m : Nat) (S : Sx) : List Expr → List Expr → Option (List E)
  | [], [] => some []
  | t :: ts, v :: vs => (trV m S t v).bind fun e => (trVs m S ts vs).map fun es => e :: es
  | _, _ => none
def trSF (m : Nat) (rc : List Stmt → Option (List S)) (S : Sx) : Stmt → Option Z.S
  | .Pass _ => some .pass
  | .Expr e _ => (trE m S e).bind fun e' => ocond (!isComp e) (.expr e')
  | .Return none _ => some (.ret (.cst .non))
  | .Return (some e) _ => (trE m S e).map .ret
  | .If c a b _ => (trE m S c).bind fun c' => (rc a).bind fun a' => (rc b).map fun b' => .ife c' a' b'
  | .While c b [] _ => (trE m S c).bind fun c' => (rc b).map fun b' => .whl c' b'
  | .For tg it b [] _ => (trI (trE m S) S tg it).bind fun it' => (trT 8 S tg).bind fun t => (rc b).map fun b' => .for t it' b'
  | .AugAssign (.Name x _) .Add e _ => (slotB S x).bind fun i => (trE m S e).bind fun e' => ocond (locB S x) (.aug i .add e')
  | .Assign [.Name x px] (.ListComp elt gs scope p) _ => (slotB S x).bind fun i => (trComp (trE m) S elt gs scope).bind fun a => ocond (locB S x) (.asg i (if (decide (i ∈ S.mu) || S.deep) = true then .mut a else .frz a))
  | .Assign [.Name x px] e _ => (slotB S x).bind fun i => (trSto m S i e).bind fun e' => ocond (locB S x && !isComp e) (.asg i e')
  | .Assign [.Tuple ts _ p] (.Tuple vs _ _) _ => (trT 8 S (.Tuple ts 0 p)).bind fun t => (trVs m S ts vs).bind fun vs' => match swapO S.sc ts vs with
    | some none => ocond (decide (vs'.length < 100000)) (.asgT t (.tup vs'))
    | some (some _) => match ts, t, vs' with
      | [.Name x _, .Name y _], .tup [.name i, .name j], [a, b] => ocond (plB S x && plB S y && decide (i ≠ j) && decide (swapO S.sc ts vs = some (some [x, y])) && decide (slotB S x = some i) && decide (slotB S y = some j)) (.asgT (.tup [.name i, .name j]) (.tup [a, b]))
      | [.Name x _, .Name y _, .Name u _], .tup [.name i, .name j, .name l], [a, b, c] =>
        ocond (plB S x && plB S y && plB S u && decide (i ≠ j) && decide (i ≠ l) && decide (j ≠ l) && decide (swapO S.sc ts vs = some (some [x, y, u])) && decide (slotB S x = some i) && decide (slotB S y = some j) && decide (slotB S u = some l)) (.asgT (.tup [.name i, .name j, .name l]) (.tup [a, b, c]))
      | _, _, _ => none
    | none => none
  | .Assign [.Tuple ts k p] e _ => (trT 8 S (.Tuple ts k p)).bind fun t => (trE m S e).bind fun e' => ocond (!isTup e) (.asgT t e')
  | .Assign [.Subscript o i _] e _ => (trE m S o).bind fun o' => (trE m S i).bind fun i' => (trE m S e).bind fun e' => ocond (!isSlice i) (.asgI o' i' e')
  | .Raise (some (.Call (.Name x _) [.Constant (.str _) _ _] [] _)) none _ => (S.xs.lookup x).bind fun c => ocond (glB S x) (.raise c)
  | _ => none
def trSs : Nat → Sx → List Stmt → Option (List Z.S)
  | 0, _, _ => none
  | n + 1, S, ss => mapO (trSF 40 (trSs n S) S) ss
structure GoodS (X : Cx) (W : Sta) (E : XK) (C : Ctx) (S : Sx) : Prop extends Good X W E C S where
  po : PassesOwn (model X.prog X.w) X.A X.env X.xe
  tk : L2N.Takes X (fun cl d _ H => E cl d H)
  xs : ∀ x c, S.xs.lookup x = some c → Gl X x → (x == ("__debug__" : Str)) = false → ∀ (m : Str) (j : Nat) (p p2 pos : Pos), L2N.PMk X (.Call (.Name x p) [.Constant (.str m) j p2] [] pos) (fun _ H Q => Q (.ref (W.xa c)) none H)
section
variable {X : Cx} {W : Sta} {E : XK} {C : Ctx} {S : Sx} {pos : Pos} {m : Nat}
theorem ok_sto (G : Good X W E C S) {i : Nat} {e : Expr} {e' : Z.E} (k : trSto m S i e = some e') : Zx X W E C e e' := by
  unfold trSto at k
  split at k
  · split at k
    · rename_i a e1
      cases k
      obtain ⟨n1, n2, n3⟩ := ok_new (ok_expr W C m) G e1
      exact Zx.gen G n3 n2 (alMut n1)
    · exact ok_expr W C m S X E G _ _ k
  · exact ok_expr W C m S X E G _ _ k
theorem ok_vs (G : Good X W E C S) : ∀ {ts vs : List Expr} {vs' : List Z.E}, trVs m S ts vs = some vs' → Zxs X W E C vs vs'
  | [], [], _, k => by
    cases k
    exact .nil
  | t :: ts, v :: vs, _, k => by
    unfold trVs at k
    obtain ⟨e, e1, k⟩ := Option.bind_eq_some_iff.mp k
    obtain ⟨es, e2, rfl⟩ := Option.map_eq_some_iff.mp k
    refine .cons ?_ (ok_vs G e2)
    unfold trV at e1
    split at e1
    · obtain ⟨i, _, e3⟩ := Option.bind_eq_some_iff.mp e1
      exact ok_sto G e3
    · exact ok_expr W C m S X E G _ _ e1
  | [], _ :: _, _, k => by cases k
  | _ :: _, [], _, k => by cases k
theorem swap_tup {e : Expr} (ts : List Expr) (k : Nat) (p : Pos) (l : Nat) (env : PySem.Env) : swapsWithSole [.Tuple ts k p] e l env = pure false := by
  cases e <;> rfl
theorem swap_sub {e : Expr} (o i : Expr) (p : Pos) (l : Nat) (env : PySem.Env) : swapsWithSole [.Subscript o i p] e l env = pure false := by
  cases e <;> rfl
theorem sws_none {e : Expr} (t : Expr) (ht : isTup t = false) (hl : ∀ es p, t ≠ .List es p) (env : PySem.Env) : swappedStores [t] e env = pure none := by
  cases t <;> first | exact absurd rfl (hl _ _) | rfl | (cases ht)
theorem sws_val {e : Expr} (ts : List Expr) (k : Nat) (p : Pos) (he : isTup e = false) (env : PySem.Env) : swappedStores [.Tuple ts k p] e env = pure none := by
  cases e <;> first | rfl | cases he
theorem zxLen {es : List Expr} {es' : List Z.E} (z : Zxs X W E C es es') : es.length = es'.length := z.length
theorem ok_stmt (G : GoodS X W E C S) {rc : List Stmt → Option (List Z.S)} (hr : ∀ ss ss', rc ss = some ss' → PSs X ss (tS W E (evSs C ss'))) {s : Stmt} {s' : Z.S} (k : trSF m rc S s = some s') : PS X s (tS W E (evS C s')) := by
  have g := G.toGood
  have T := ok_expr W C m
  unfold trSF at k
  split at k
  · cases k
    exact zsPass
  · obtain ⟨e', e1, k⟩ := Option.bind_eq_some_iff.mp k
    obtain ⟨c, rfl⟩ := ocond_some k
    exact zsExpr (T S X E g _ _ e1).pe (swap_none ((Bool.not_eq_true' _).mp c) _ _)
  · cases k
    exact zsRetN
  · obtain ⟨e', e1, rfl⟩ := Option.map_eq_some_iff.mp k
    exact zsRet (T S X E g _ _ e1).pe
  · obtain ⟨c', e1, k⟩ := Option.bind_eq_some_iff.mp k
    obtain ⟨a', e2, k⟩ := Option.bind_eq_some_iff.mp k
    obtain ⟨b', e3, rfl⟩ := Option.map_eq_some_iff.mp k
    exact zsIf (T S X E g _ _ e1).pt (hr _ _ e2) (hr _ _ e3)
  · obtain ⟨c', e1, k⟩ := Option.bind_eq_some_iff.mp k
    obtain ⟨b', e3, rfl⟩ := Option.map_eq_some_iff.mp k
    exact zsWhl G.po (T S X E g _ _ e1).pt (hr _ _ e3)
  · obtain ⟨it', e1, k⟩ := Option.bind_eq_some_iff.mp k
    obtain ⟨t, e2, k⟩ := Option.bind_eq_some_iff.mp k
    obtain ⟨b', e3, rfl⟩ := Option.map_eq_some_iff.mp k
    obtain ⟨i1, i2⟩ := ok_iter T g e1
    exact zsFor G.po g.calm i1 (ok_tgt 8 g _ _ e2).1 (hr _ _ e3) (i2 _)
  · obtain ⟨i, e1, k⟩ := Option.bind_eq_some_iff.mp k
    obtain ⟨e', e2, k⟩ := Option.bind_eq_some_iff.mp k
    obtain ⟨c, rfl⟩ := ocond_some k
    exact zsAugAdd g.nd (g.slot e1) (g.loc c) (g.fn _ c) (T S X E g _ _ e2).pe
  · rename_i x px elt gs scope p _
    obtain ⟨i, e1, k⟩ := Option.bind_eq_some_iff.mp k
    obtain ⟨a, e2, k⟩ := Option.bind_eq_some_iff.mp k
    obtain ⟨c, rfl⟩ := ocond_some k
    have co := ok_comp T g e2
    have sw := fun l => swB_ok (S := S) g (elt := elt) (gs := gs) (scope := scope) (p := p) (px := px) (x := x) (l := l)
    cases hb : swB S x px scope p with
    | false =>
      rw [hb] at sw
      have pe : PE X (.ListComp elt gs scope p) (tE W E (evE C (if (decide (i ∈ S.mu) || S.deep) = true then .mut a else .frz a))) := by
        cases (decide (i ∈ S.mu) || S.deep) with
        | true => exact alMut (co.pe g)
        | false => exact alFrz (co.pe g)
      exact zsAsg g.nd (g.slot e1) (g.loc c) (g.fn _ c) pe (sw _)
    | true =>
      rw [hb] at sw
      have pl : X.env.scope.names.lookup x = some .local := by
        unfold swB kindB at hb
        rw [← g.sc] at hb
        simp only [Bool.and_eq_true, beq_iff_eq] at hb
        exact hb.1.1
      rcases co.ex with ⟨tg, iter, ifs, own, t, it, fs, el, rfl, rfl, ok, sl, i1, i2, gg, tt, te⟩ | ⟨tg, iter, tg2, iter2, ifs, own, t, it, t2, it2, fs, el, rfl, rfl, ok, sl, sl2, i1, i2, gg, i3, i4, gg2, tt, te⟩
      · exact (ps_setLc g.calm g.nd (g.slot e1) pl (sw _) i1 ok gg tt te (i2 _)).imp fun D σ H q => asgAl _ (fun Q q => lcZ sl q) q
      · exact (ps_setLc2 g.calm g.nd (g.slot e1) pl (sw _) i1 ok sl2 gg (fun _ _ _ _ _ => pts_nil) i3 gg2 tt te (i2 _) i4).imp fun D σ H q => asgAl _ (fun Q q => lc2Z sl q) q
  · obtain ⟨i, e1, k⟩ := Option.bind_eq_some_iff.mp k
    obtain ⟨e', e2, k⟩ := Option.bind_eq_some_iff.mp k
    obtain ⟨c, rfl⟩ := ocond_some k
    simp only [Bool.and_eq_true, Bool.not_eq_true'] at c
    exact zsAsg g.nd (g.slot e1) (g.loc c.1) (g.fn _ c.1) (ok_sto g e2).pe (swap_none c.2 _ _)
  · rename_i ts k0 p vs _ _ _
    obtain ⟨t, e1, k⟩ := Option.bind_eq_some_iff.mp k
    obtain ⟨vs', e2, k⟩ := Option.bind_eq_some_iff.mp k
    have zv := ok_vs g e2
    have gt := (ok_tgt 8 g _ _ e1).1
    split at k
    · rename_i hs
      obtain ⟨c, rfl⟩ := ocond_some k
      have gt2 : ∀ kk, PG X (.Tuple ts kk p) (tG W t) := fun kk => (ok_tgt 8 g (.Tuple ts kk p) t e1).1
      exact zsAsgT (zTup (zArgs zv) (of_decide_eq_true c)) (gt2 _) rfl (swapO_ok g hs) rfl
    · split at k
      · rename_i x px y py i j a b _ _ _
        obtain ⟨c, rfl⟩ := ocond_some k
        simp only [Bool.and_eq_true, decide_eq_true_eq] at c
        obtain ⟨⟨⟨⟨⟨c1, c2⟩, c3⟩, c4⟩, c5⟩, c6⟩ := c
        cases zv with
        | cons za r =>
          cases r with
          | cons zb r =>
            cases r
            exact zsPar g.calm g.nd (g.slot c5) (g.slot c6) c3 (g.pl c1) (g.pl c2) za zb (swapO_ok g c4)
      · rename_i x px y py u pu i j l a b d _ _ _
        obtain ⟨c, rfl⟩ := ocond_some k
        simp only [Bool.and_eq_true, decide_eq_true_eq] at c
        obtain ⟨⟨⟨⟨⟨⟨⟨⟨⟨c1, c2⟩, c3⟩, c4⟩, c5⟩, c6⟩, c7⟩, c8⟩, c9⟩, c10⟩ := c
        cases zv with
        | cons za r =>
          cases r with
          | cons zb r =>
            cases r with
            | cons zd r =>
              cases r
              exact zsPar3 g.calm g.nd (g.slot c8) (g.slot c9) (g.slot c10) c4 c5 c6 (g.pl c1) (g.pl c2) (g.pl c3) za zb zd (swapO_ok g c7)
      · cases k
    · cases k
  · obtain ⟨t, e1, k⟩ := Option.bind_eq_some_iff.mp k
    obtain ⟨e', e2, k⟩ := Option.bind_eq_some_iff.mp k
    obtain ⟨c, rfl⟩ := ocond_some k
    exact zsAsgT (T S X E g _ _ e2).pe (ok_tgt 8 g _ _ e1).1 (swap_tup _ _ _ _ _) (sws_val _ _ _ ((Bool.not_eq_true' _).mp c) _) rfl
  · rename_i o i tp e _
    obtain ⟨o', e1, k⟩ := Option.bind_eq_some_iff.mp k
    obtain ⟨i', e2, k⟩ := Option.bind_eq_some_iff.mp k
    obtain ⟨e', e3, k⟩ := Option.bind_eq_some_iff.mp k
    obtain ⟨c, rfl⟩ := ocond_some k
    have c' := (Bool.not_eq_true' _).mp c
    refine zsIx g.hu (T S X E g _ _ e1).pe (T S X E g _ _ e2).pe (T S X E g _ _ e3).pe ?_ (swap_sub _ _ _ _ _) (sws_none _ rfl (fun _ _ q => by cases q) _)
    intro v
    cases i <;> first | rfl | cases c'
  · obtain ⟨c, e1, k⟩ := Option.bind_eq_some_iff.mp k
    obtain ⟨cc, rfl⟩ := ocond_some k
    exact zsRaise g.calm G.tk (G.xs _ _ e1 (g.gl cc).1 (g.gl cc).2.1 _ _ _ _ _)
  · cases k
theorem ok_stmts : ∀ n, GoodS X W E C S → ∀ ss ss', trSs n S ss = some ss' → PSs X ss (tS W E (evSs C ss'))
  | 0, _, _, _, k => by cases k
  | n + 1, G, ss, ss', k => by
    unfold trSs at k
    have fa : Fa (fun s s' => PS X s (tS W E (evS C s'))) ss ss' := mapO_fa (f := trSF 40 (trSs n S) S) (fun a b q => ok_stmt (m := 40) G (ok_stmts n G) q) k
    have go : ∀ {ss : List Stmt} {ss' : List Z.S}, Fa (fun s s' => PS X s (tS W E (evS C s'))) ss ss' → PSs X ss (tS W E (evSs C ss')) := fun fa => by
      induction fa with
      | nil => exact zsNil
      | cons a r ih => exact zsCons a ih
    exact go fa
end
end Z
-- Z24
set_option Elab.async false
set_option linter.all false
set_option maxRecDepth 100000
set_option maxHeartbeats 2000000
/-! Layer Z, part 24: at a def's end: what it made becomes frozen. -/
namespace Z
open PySem PySem.Spec PyProof.Rows L2
open Classical in
/-- the things from n on are frozen -/
noncomputable def cutZ (z : Zn) (H : Hp) (n : Nat) : Zn := ⟨z.mp.take n, fun a => match z.fz a with
  | some o => some o
  | none => if a ∈ z.mp.drop n then H a else none, z.rs⟩
section
variable {W : Sta} {z z1 : Zn} {h h0 : AH} {H : Hp} {n : Nat}
theorem cut_old {a : Addr} {o : HO} (e : z.fz a = some o) : (cutZ z H n).fz a = some o := by
  unfold cutZ
  simp only [e]
theorem cut_new (R : RH W z h H) {i : Nat} {a : Addr} (hi : n ≤ i) (e : z.mp[i]? = some a) : (cutZ z H n).fz a = H a := by
  have hm : a ∈ z.mp.drop n := by
    have : (z.mp.drop n)[i - n]? = some a := by
      rw [List.getElem?_drop]
      have : n + (i - n) = i := by omega
      rw [this]
      exact e
    exact List.mem_of_getElem? this
  unfold cutZ
  simp only [R.dis a (List.mem_of_getElem? e)]
  rw [if_pos hm]
theorem cut_fz (R : RH W z h H) {a : Addr} {o : HO} (e : (cutZ z H n).fz a = some o) : H a = some o ∧ noTbl o = true := by
  unfold cutZ at e
  cases q : z.fz a with
  | some u =>
    simp only [q] at e
    cases e
    exact ⟨R.fz _ _ q, R.pl _ _ q⟩
  | none =>
    simp only [q] at e
    split at e
    · rename_i hm
      refine ⟨e, ?_⟩
      obtain ⟨i, hi, q2⟩ := List.mem_iff_getElem.mp (List.mem_of_mem_drop hm)
      have hl : i < h.length := by rw [← R.len]; exact hi
      obtain ⟨u, hu, pu⟩ := (R.mo i _ a (List.getElem?_eq_getElem hl) (by rw [List.getElem?_eq_getElem hi, q2])).plain
      rw [e] at hu
      cases hu
      exact plain_noTbl pu
    · cases e
theorem le_cut (L : z1.Le z) (hn : z1.mp.length = n) : z1.Le (cutZ z H n) := by
  obtain ⟨⟨r, e⟩, f, g⟩ := L
  refine ⟨⟨[], ?_⟩, fun a o q => cut_old (f a o q), g⟩
  show z.mp.take n = z1.mp ++ []
  rw [e, List.append_nil, ← hn, List.take_left]
mutual
theorem RV.cut (R : RH W z h H) : ∀ (x : PV) (v : V), x.under n = true → RV W z x v → RV W (cutZ z H n) x v
  | .non, _, _, r => r
  | .bl _, _, _, r => r
  | .int _, _, _, r => r
  | .str _, _, _, r => r
  | .tup xs, _, u, r => by
    obtain ⟨a, vs, e, q, r⟩ := r
    refine ⟨a, vs, e, ?_, RVs.cut R xs vs u r⟩
    rcases q with (q | ⟨o, q⟩) | q
    · exact .inl (.inl (cut_old q))
    · exact .inl (.inr ⟨o, cut_old q⟩)
    · exact .inr q
  | .lst xs, _, u, r => by
    obtain ⟨a, vs, e, q, r⟩ := r
    exact ⟨a, vs, e, cut_old q, RVs.cut R xs vs u r⟩
  | .scr xs, _, u, r => by
    obtain ⟨a, vs, e, q, r⟩ := r
    refine ⟨a, vs, e, ?_, RVs.cut R xs vs u r⟩
    rcases q with (q | ⟨o, q⟩) | q
    · exact .inl (.inl (cut_old q))
    · exact .inl (.inr ⟨o, cut_old q⟩)
    · exact .inr q
  | .ref i, _, u, r => by
    obtain ⟨a, q, e⟩ := r
    have hi : i < n := of_decide_eq_true u
    refine ⟨a, ?_, e⟩
    show (z.mp.take n)[i]? = some a
    rw [List.getElem?_take_of_lt hi]
    exact q
  | .dct ks ws, _, u, r => by
    obtain ⟨a, kvs, e, q, nd, r1, r2⟩ := r
    have u' := (Bool.and_eq_true _ _).mp (show (unders n ks && unders n ws) = true from u)
    exact ⟨a, kvs, e, cut_old q, nd, RVs.cut R ks _ u'.1 r1, RVs.cut R ws _ u'.2 r2⟩
  | .set _, _, _, r => r
  | .obj c ns vs, _, u, r => by
    obtain ⟨a, dx, fs, e, q1, q2, q3, r⟩ := r
    exact ⟨a, dx, fs, e, cut_old q1, cut_old q2, q3, RVs.cut R vs _ u r⟩
theorem RVs.cut (R : RH W z h H) : ∀ (xs : List PV) (vs : List V), unders n xs = true → RVs W z xs vs → RVs W (cutZ z H n) xs vs
  | [], _, _, r => r
  | x :: t, _, u, r => by
    obtain ⟨v, us, e, r1, r2⟩ := r
    have u' := (Bool.and_eq_true _ _).mp (show (x.under n && unders n t) = true from u)
    exact ⟨v, us, e, RV.cut R x v u'.1 r1, RVs.cut R t us u'.2 r2⟩
end
mutual
theorem RV.under : ∀ (x : PV) (v : V), RV W z x v → x.under z.mp.length = true
  | .non, _, _ => rfl
  | .bl _, _, _ => rfl
  | .int _, _, _ => rfl
  | .str _, _, _ => rfl
  | .tup xs, _, r => by
    obtain ⟨a, vs, e, q, r⟩ := r
    exact RVs.under xs vs r
  | .lst xs, _, r => by
    obtain ⟨a, vs, e, q, r⟩ := r
    exact RVs.under xs vs r
  | .scr xs, _, r => by
    obtain ⟨a, vs, e, q, r⟩ := r
    exact RVs.under xs vs r
  | .ref i, _, r => by
    obtain ⟨a, q, e⟩ := r
    exact decide_eq_true (List.getElem?_eq_some_iff.mp q).1
  | .dct ks ws, _, r => by
    obtain ⟨a, kvs, e, q, nd, r1, r2⟩ := r
    exact (Bool.and_eq_true _ _).mpr ⟨RVs.under ks _ r1, RVs.under ws _ r2⟩
  | .set _, _, r => r.elim
  | .obj c ns vs, _, r => by
    obtain ⟨a, dx, fs, e, q1, q2, q3, r⟩ := r
    exact RVs.under vs _ r
theorem RVs.under : ∀ (xs : List PV) (vs : List V), RVs W z xs vs → unders z.mp.length xs = true
  | [], _, _ => rfl
  | x :: t, _, r => by
    obtain ⟨v, us, e, r1, r2⟩ := r
    exact (Bool.and_eq_true _ _).mpr ⟨RV.under x v r1, RVs.under t us r2⟩
end
theorem RMO.under {a : Addr} : ∀ {m : MO}, RMO W z H a m → m.under z.mp.length = true
  | .lst xs, r => by
    obtain ⟨vs, e, q⟩ := r
    exact RVs.under xs vs q
  | .dct ks ws, r => by
    obtain ⟨kvs, e, nd, r1, r2⟩ := r
    exact (Bool.and_eq_true _ _).mpr ⟨RVs.under ks _ r1, RVs.under ws _ r2⟩
  | .ins c ns vs, r => by
    obtain ⟨dx, fs, e, q1, q2, q⟩ := r
    exact RVs.under vs _ q
theorem RH.under (R : RH W z h H) : ∀ m ∈ h, m.under h.length = true := fun m hm => by
  obtain ⟨i, hi, e⟩ := List.mem_iff_getElem.mp hm
  have hl : i < z.mp.length := by rw [R.len]; exact hi
  have := (R.mo i m z.mp[i] (by rw [List.getElem?_eq_getElem hi, e]) (List.getElem?_eq_getElem hl)).under
  rw [R.len] at this
  exact this
theorem RMO.cut (R : RH W z h H) {a : Addr} : ∀ {m : MO}, m.under n = true → RMO W z H a m → RMO W (cutZ z H n) H a m
  | .lst xs, u, r => by
    obtain ⟨vs, e, q⟩ := r
    exact ⟨vs, e, RVs.cut R xs vs u q⟩
  | .dct ks ws, u, r => by
    obtain ⟨kvs, e, nd, r1, r2⟩ := r
    have u' := (Bool.and_eq_true _ _).mp (show (unders n ks && unders n ws) = true from u)
    exact ⟨kvs, e, nd, RVs.cut R ks _ u'.1 r1, RVs.cut R ws _ u'.2 r2⟩
  | .ins c ns vs, u, r => by
    obtain ⟨dx, fs, e, q1, q2, q⟩ := r
    exact ⟨dx, fs, e, cut_old q1, q2, RVs.cut R vs _ u q⟩
/-- the heap behind the def -/
theorem RH.cut (R : RH W z h H) (hl : n ≤ h.length) (hu : ∀ m ∈ h.take n, m.under n = true) : RH W (cutZ z H n) (h.take n) H := by
  refine ⟨fun a o e => (cut_fz R e).1, fun a o e => (cut_fz R e).2, ?_, fun i m a e1 e2 => ?_, ?_, fun a ha => ?_, R.tab, fun a o e => ?_⟩
  · show (z.mp.take n).length = _
    rw [List.length_take, List.length_take, R.len]
  · have hi : i < n := by
      have := (List.getElem?_eq_some_iff.mp e1).1
      rw [List.length_take] at this
      omega
    have e1' : h[i]? = some m := by
      rw [List.getElem?_take_of_lt hi] at e1
      exact e1
    have e2' : z.mp[i]? = some a := by
      have : (z.mp.take n)[i]? = some a := e2
      rw [List.getElem?_take_of_lt hi] at this
      exact this
    exact RMO.cut R (hu m (List.mem_of_getElem? e1)) (R.mo i m a e1' e2')
  · exact R.nd.sublist (List.take_sublist n z.mp)
  · have hm : a ∈ z.mp.take n := ha
    have hz := R.dis a (List.mem_of_mem_take hm)
    have nd : a ∉ z.mp.drop n := fun q => by
      have := R.nd
      rw [← List.take_append_drop n z.mp, List.nodup_append] at this
      exact this.2.2 a hm a q rfl
    unfold cutZ
    simp only [hz]
    rw [if_neg nd]
  · obtain ⟨r1, r2, r3, r4⟩ := R.rs a o e
    refine ⟨r1, ?_, fun q => r3 (List.mem_of_mem_take q), r4⟩
    unfold cutZ
    simp only [r2]
    rw [if_neg fun q => r3 (List.mem_of_mem_drop q)]
theorem frz_ok (R : RH W z h H) (k : Nat) : (∀ (v v' : PV) (u : V), frz h n k v = some v' → RV W z v u → RV W (cutZ z H n) v' u) ∧ (∀ (xs xs' : List PV) (us : List V), frzs h n k xs = some xs' → RVs W z xs us → RVs W (cutZ z H n) xs' us) := by
  induction k with
  | zero =>
    refine ⟨fun v v' u e => ?_, fun xs xs' us e => ?_⟩
    · unfold frz at e
      cases e
    · unfold frzs at e
      cases e
  | succ k ih =>
    obtain ⟨ih1, ih2⟩ := ih
    have one : ∀ (v v' : PV) (u : V), frz h n (k + 1) v = some v' → RV W z v u → RV W (cutZ z H n) v' u := fun v v' u e r => by
      unfold frz at e
      cases v with
      | ref i =>
        simp only at e
        split at e
        · rename_i hi
          cases e
          exact RV.cut R _ _ (decide_eq_true hi) r
        · rename_i hi
          split at e
          · rename_i xs em
            obtain ⟨xs', e1, rfl⟩ := Option.map_eq_some_iff.mp e
            obtain ⟨a, hp, rfl, vs, q1, q2⟩ := refMO R r em
            exact ⟨a, vs, rfl, by rw [cut_new R (by omega) hp]; exact q1, ih2 _ _ _ e1 q2⟩
          · rename_i ks vs em
            obtain ⟨ks', e1, e2⟩ := Option.bind_eq_some_iff.mp e
            obtain ⟨vs', e3, rfl⟩ := Option.map_eq_some_iff.mp e2
            obtain ⟨a, hp, rfl, kvs, q1, nd, q2, q3⟩ := refMO R r em
            exact ⟨a, kvs, rfl, by rw [cut_new R (by omega) hp]; exact q1, nd, ih2 _ _ _ e1 q2, ih2 _ _ _ e3 q3⟩
          · rename_i c ns vs em
            obtain ⟨vs', e1, rfl⟩ := Option.map_eq_some_iff.mp e
            obtain ⟨a, hp, rfl, dx, fs, q1, q2, q3, q4⟩ := refMO R r em
            exact ⟨a, dx, fs, rfl, by rw [cut_new R (by omega) hp]; exact q1, cut_old q2, q3, ih2 _ _ _ e1 q4⟩
          · cases e
      | tup xs =>
        obtain ⟨xs', e1, rfl⟩ := Option.map_eq_some_iff.mp e
        obtain ⟨a, vs, rfl, q, r⟩ := r
        refine ⟨a, vs, rfl, ?_, ih2 _ _ _ e1 r⟩
        rcases q with (q | ⟨o, q⟩) | q
        · exact .inl (.inl (cut_old q))
        · exact .inl (.inr ⟨o, cut_old q⟩)
        · exact .inr q
      | lst xs =>
        obtain ⟨xs', e1, rfl⟩ := Option.map_eq_some_iff.mp e
        obtain ⟨a, vs, rfl, q, r⟩ := r
        exact ⟨a, vs, rfl, cut_old q, ih2 _ _ _ e1 r⟩
      | obj c ns vs =>
        obtain ⟨vs', e1, rfl⟩ := Option.map_eq_some_iff.mp e
        obtain ⟨a, dx, fs, rfl, q1, q2, q3, r⟩ := r
        exact ⟨a, dx, fs, rfl, cut_old q1, cut_old q2, q3, ih2 _ _ _ e1 r⟩
      | dct ks vs =>
        obtain ⟨ks', e1, e2⟩ := Option.bind_eq_some_iff.mp e
        obtain ⟨vs', e3, rfl⟩ := Option.map_eq_some_iff.mp e2
        obtain ⟨a, kvs, rfl, q, nd, r1, r2⟩ := r
        exact ⟨a, kvs, rfl, cut_old q, nd, ih2 _ _ _ e1 r1, ih2 _ _ _ e3 r2⟩
      | set _ => exact r.elim
      | non =>
        cases e
        exact r
      | bl _ =>
        cases e
        exact r
      | int _ =>
        cases e
        exact r
      | str _ =>
        cases e
        exact r
      | scr xs =>
        simp only at e
        split at e
        · rename_i hu
          cases e
          exact RV.cut R (.scr xs) u hu r
        · cases e
    refine ⟨one, fun xs => ?_⟩
    induction xs with
    | nil =>
      intro xs' us e r
      unfold frzs at e
      cases e
      exact r
    | cons x t iht =>
      intro xs' us e r
      unfold frzs at e
      obtain ⟨a, e1, e2⟩ := Option.bind_eq_some_iff.mp e
      obtain ⟨b, e3, rfl⟩ := Option.map_eq_some_iff.mp e2
      obtain ⟨v, ws, rfl, r1, r2⟩ := r
      exact ⟨v, ws, rfl, ih1 _ _ _ e1 r1, iht _ _ e3 r2⟩
end
end Z
-- Z25
set_option Elab.async false
set_option linter.all false
set_option maxRecDepth 100000
set_option maxHeartbeats 2000000
/-! Layer Z, part 25: defs. -/
namespace Z
open PySem PySem.Spec PyProof.Rows L2
section
variable {W : Sta} {z : Zn} {h : AH} {H : Hp} {E : XK}
theorem guard_ok {n : Nat} {h0 h1 : AH} (R0 : RH W z h0 H) (c : (decide (h0.length ≤ h1.length) && (decide (h1.take h0.length = h0) || (h1.take h0.length).all fun o => o.under h0.length)) = true) : h0.length ≤ h1.length ∧ ∀ m ∈ h1.take h0.length, m.under h0.length = true := by
  simp only [Bool.and_eq_true, Bool.or_eq_true, decide_eq_true_eq, List.all_eq_true] at c
  refine ⟨c.1, ?_⟩
  rcases c.2 with q | q
  · rw [q]
    exact R0.under
  · exact q
/-- what a def's body must do -/
theorem run_body {C : Ctx} {d : Def} {as : List PV} {Q : VK} (R0 : RH W z h H) (p : Post W z E (runDef C d as h) (KV W Q)) :
    as.length = d.params ∧ Post W z E (evSs C d.body (as.map some ++ List.replicate (d.slots - d.params) none) h) (KS W { nx := fun _ H' => Q .non H', rt := Q }) := by
  obtain ⟨hl, p⟩ := grd_ok p
  refine ⟨of_decide_eq_true hl, ?_⟩
  have lv : ∀ (v : PV) (h1 : AH), Post W z E (leave d h v h1) (KV W Q) → ∀ z' H', z.Le z' → RH W z' h1 H' → ∀ u, RV W z' v u → Q u H' := fun v h1 p z' H' l R u r => by
    unfold leave at p
    split at p
    · exact p z' H' l R u r
    · obtain ⟨c, p⟩ := grd_ok p
      obtain ⟨g1, g2⟩ := guard_ok (n := 0) R0 c
      split at p
      · rename_i v' ev
        exact p (cutZ z' H' h.length) H' (le_cut l R0.len) (R.cut g1 g2) u ((frz_ok R 60).1 v v' u ev r)
      · exact p.elim
  cases e : evSs C d.body (as.map some ++ List.replicate (d.slots - d.params) none) h with
  | stuck =>
    rw [e] at p
    exact p
  | exc x h1 =>
    rw [e] at p
    obtain ⟨c, p⟩ := grd_ok p
    obtain ⟨g1, g2⟩ := guard_ok (n := 0) R0 c
    exact fun z' cls dd H' l q R => p (cutZ z' H' h.length) cls dd H' (le_cut l R0.len) q (R.cut g1 g2)
  | ok o h1 =>
    rw [e] at p
    cases o with
    | ret v => exact fun z' H' l R u r => lv v h1 p z' H' l R u r
    | next ρ => exact fun z' H' l R σ' _ => lv .non h1 p z' H' l R .non rfl
theorem start_re {as : List PV} {vs : List V} {N : List Str} (r : RVs W z as vs) : RE W z (as.map some ++ List.replicate (N.length - as.length) none) (L2.start N vs) := by
  unfold L2.start
  refine ⟨by simp [r.length], fun i v e => ?_⟩
  by_cases hi : i < as.length
  · rw [List.getElem?_append_left (by simpa using hi), List.getElem?_map] at e
    obtain ⟨w, e1, e2⟩ := Option.map_eq_some_iff.mp e
    cases e2
    obtain ⟨v', e3, rv⟩ := r.get e1
    refine ⟨v', ?_, rv⟩
    rw [List.getElem?_append_left (by rw [List.length_map, ← r.length]; exact hi), List.getElem?_map, e3]
    rfl
  · rw [List.getElem?_append_right (by simpa using hi)] at e
    obtain ⟨_, e2⟩ := List.getElem?_eq_some_iff.mp e
    rw [List.getElem_replicate] at e2
    cases e2
end
/-! ### a def as a datum -/
structure FnR where
  x : Str
  id : Nat
  ps : List Str
  N : List Str
  mu : List Nat := []
  keep : Bool := false
  /-- lambdas stand in it -/
  lam : Bool := false
  /-- all that it makes may change later -/
  deep : Bool := false
  args : Arguments
  body : List Stmt
  scope : Scope
/-- what all defs of a program know -/
structure Env0s where
  fs : List (Str × Nat × Nat)
  bs : List Str
  gs : List (Str × PV)
  xs : List (Str × Nat)
  /-- whether _law_outcome, _law_raises are known; what _law_errors says of a class -/
  lam : Bool := false
  rai : Bool := false
  word : Nat → Option (List Nat) := fun _ => none
def FnR.sx (r : FnR) (g : Env0s) : Sx := ⟨r.N, r.scope, none, g.fs, g.bs, g.gs, g.xs, r.mu, r.lam && g.lam, r.lam && g.rai, r.deep⟩
/-- the qualified name of a def's lambdas -/
def lamQ (x : Str) : Str := x ++ ".<locals>." ++ "<lambda>"

def fnScopeB (N P : List Str) (sc : Scope) : Bool := decide (sc.kind = .function) && !sc.isCoroutine && !sc.isGenerator && decide N.Nodup && decide (N.take P.length = P) &&
  (P.all fun x => decide (sc.names.lookup x = some .local) || decide (sc.names.lookup x = some .cell)) && (sc.names.all fun y => decide (y.2 ≠ .free))
theorem fnScope_of {N P : List Str} {sc : Scope} (h : fnScopeB N P sc = true) : FnScope N P sc := by
  unfold fnScopeB at h
  simp only [Bool.and_eq_true, decide_eq_true_eq, List.all_eq_true, Bool.or_eq_true, Bool.not_eq_true'] at h
  obtain ⟨⟨⟨⟨⟨⟨h1, h2⟩, h3⟩, h4⟩, h5⟩, h6⟩, h7⟩ := h
  exact ⟨h1, h2, h3, h4, h5, h6, h7⟩
/-- the translation -/
def FnR.tr (r : FnR) (g : Env0s) : Option (List S) := if fnScopeB r.N r.ps r.scope = true then trSs 40 (r.sx g) r.body else none
def FnR.def_ (r : FnR) (b : List S) : Def := ⟨r.ps.length, r.N.length, b, r.keep⟩
/-- the facts about the module that a def's body leans on -/
structure Facts (P : Program) (w : World) (K : PySem.W.Frag) (mg : Str → Option Value) (base : Heap) (W : Sta) (g : Env0s) : Prop where
  hK : K = W.K
  bs : ∀ x, g.bs.contains x = true → mg x = none
  gs : ∀ x v, g.gs.lookup x = some v → ∃ u, (∀ z, RV W z v u) ∧ ∃ uu, mg x = some uu ∧ RelV u uu
  xs : ∀ x c, g.xs.lookup x = some c → mg x = some (.ref (W.xa c)) ∧ PySem.W.excIn K (W.xa c) He.veBase "ValueError.__new__" = true ∧ PySem.W.keepIn K (.ref (W.xa c)) = true ∧ PySem.W.subIn K (.ref (W.xa c)) (.type "BaseException") = some true ∧ PySem.W.typeIn K (.ref (W.xa c)) = some (.type "type")
  lam : g.lam = true → ∃ (CS CF : Addr) (word : Addr → Option Str), (∀ c u, g.word c = some u → PySem.W.exmOne K (.ref (W.xa c)) (.ref CS) = some true ∧ PySem.W.kitOne K (.ref (W.xa c)) (.ref CF) = some false ∧ word (W.xa c) = some (toS u) ∧ okS u = true ∧ u.length ≤ 1000) ∧
    ∀ X : Cx, X.prog = P → X.w = w → X.K = K → X.mg = mg → X.base = base → OutS X W CS CF word ∧ (g.rai = true → RaiS X W CS CF word)
/-- a def that stands where it should -/
structure Placed (K : PySem.W.Frag) (mg : Str → Option Value) (base : Heap) (W : Sta) (r : FnR) (a : Addr) (fd : FuncData) : Prop where
  fn : FunD K r.x r.x r.args r.body r.scope [] [] a fd
  tb : r.lam = true → ∃ c Pt, LamX.TabB base mg c Pt ∧ fd.code = .ref c ∧ (Pt, lamQ r.x) ∈ W.T ∧ ∀ p ∈ W.T, p.1 = Pt → p.2 = lamQ r.x
  mg : mg r.x = some (.ref a)
  bd : Binds K fd r.ps []
section
variable {P : Program} {w : World} {K : PySem.W.Frag} {mg : Str → Option Value} {base : Heap} {W : Sta} {g : Env0s}
/-- a def's rule, its code object known -/
theorem fnD_ok {x qual : Str} {params : Arguments} {body : List Stmt} {scope : Scope} {f : Addr} {fd : FuncData} {CX : CXT} {N ps : List Str} {k : Nat} {sp : Sp} (F : FunD K x qual params body scope [] [] f fd) (S : FnScope N ps scope) (len : ∀ vs H Q E, sp vs H Q E → vs.length = ps.length)
    (hbody : ∀ (cdv : Value) (A : Around) (outer : List PySem.Env) (s : Shared) (H : Hp) (vs : List V) (Q : VK) (E : XK), fd.code = cdv → Room k (A.deeper (envOfC qual scope s.heap.objs.size f cdv)) → sp vs H Q E →
      ∃ t, PSs (cxOf CX P w K mg base N qual scope f cdv A outer s H E) body t ∧ t { nx := fun _ H' => Q .non H', rt := Q } (L2.start N vs) H) : FnOk P w K mg base CX (k + 1) f fd ps sp := by
  obtain ⟨oc, od, dV, kV, doc, pm, an, cdv, ct, osl, rfl, lk, hcd, _, _⟩ := F.ex
  exact fn_of lk hcd S len fun A outer s H vs Q E hr q => hbody cdv A outer s H vs Q E rfl hr q
/-- one def, if the defs it calls are known k deep -/
theorem fn_one {r : FnR} {a : Addr} {fd : FuncData} {b : List Z.S} {C : Ctx} {k : Nat} (Fc : Facts P w K mg base W g) (hC : C.word = g.word) (p : Placed K mg base W r a fd) (ht : r.tr g = some b)
    (ih : ∀ x f n, g.fs.lookup x = some (f, n) → ∃ a fd ps, FnOk P w K mg base (L2N.CX P w) (7 * k) a fd ps (spOf W n (C.fn f)) ∧ mg x = some (.ref a) ∧ PySem.W.keepIn K (.ref a) = true ∧ Binds K fd ps []) :
    FnOk P w K mg base (L2N.CX P w) (7 * (k + 1)) a fd r.ps (spOf W r.ps.length (runDef C (r.def_ b))) := by
  unfold FnR.tr at ht
  split at ht
  · rename_i hs
    refine fnD_ok p.fn (k := 7 * k + 6) (fnScope_of hs) (fun vs H Q E ⟨z, as, h, ra, rh, hl, q⟩ => ?_) (fun cdv A outer s H vs Q E hcd hr ⟨z, as, h, ra, rh, hl, q⟩ => ?_)
    · rw [← ra.length, hl]
    · obtain ⟨h1, h2⟩ := run_body rh q
      have S := fnScope_of hs
      have tk : L2N.Takes (cxOf (L2N.CX P w) P w K mg base r.N r.x r.scope a cdv A outer s H E) (fun cl d _ H => E cl d H) := L2N.takes_of rfl rfl rfl rfl
      have G : GoodS (cxOf (L2N.CX P w) P w K mg base r.N r.x r.scope a cdv A outer s H E) W E C (r.sx g) := {
        N := rfl
        nd := S.nd
        sc := rfl
        kd := S.kind
        fn := fun x _ => .inl rfl
        calm := rfl
        K := Fc.hK
        hu := by
          have := hr.un
          show (A.deeper _).units + 64 < cLine
          omega
        fs := fun x f n e => by
          obtain ⟨a', fd', ps', F, hm, hk, hb⟩ := ih x f n e
          exact ⟨7 * k, a', fd', ps', F, hr.mono (by omega), hm, hk, hb, fun pins σ H0 s0 e0 s0' I c => L2N.passes_call tk (fun _ _ _ _ q => q) pins σ H0 s0 e0 s0' I c⟩
        bs := Fc.bs
        gs := Fc.gs
        lam := fun hl => by
          have hl' : (r.lam && g.lam) = true := hl
          simp only [Bool.and_eq_true] at hl'
          obtain ⟨CS, CF, word, hw, ho⟩ := Fc.lam hl'.2
          obtain ⟨c, Pt, t1, t2, t3, t4⟩ := p.tb hl'.1
          obtain ⟨o1, o2⟩ := ho (cxOf (L2N.CX P w) P w K mg base r.N r.x r.scope a cdv A outer s H E) rfl rfl rfl rfl rfl
          exact ⟨k, CS, CF, word, hr, fun x f n e => ih x f n e, ⟨c, Pt, t1, hcd.symm.trans t2, t3, t4⟩, ⟨fun c u e => hw c u (by rw [← hC]; exact e)⟩, o1, fun q => o2 (by
            have q' : (r.lam && g.rai) = true := q
            simp only [Bool.and_eq_true] at q'
            exact q'.2)⟩
        po := passes_of rfl
        tk := tk
        xs := fun x c e hg hdb m j p p2 pos => by
          obtain ⟨x1, x2, x3, x4, x5⟩ := Fc.xs x c e
          exact L2N.pmk_own PySem.F.excBase_ValueError x2 x1 x3 (raises_own x4 x5) hg hdb }
      refine ⟨_, ok_stmts 40 G r.body b ht, z, _, h, start_re (N := r.N) ra, rh, ?_⟩
      rw [hl]
      exact h2
  · cases ht
theorem _root_.L2.FunD.look {x qual : Str} {params : Arguments} {body : List Stmt} {scope : Scope} {f : Addr} {fd : FuncData} (F : FunD K x qual params body scope [] [] f fd) : ∃ oc od osl, K.lookup f = some ⟨oc, od, .func fd, osl⟩ := by
  obtain ⟨oc, od, dV, kV, doc, pm, an, cdv, ct, osl, _, lk, _⟩ := F.ex
  exact ⟨oc, od, osl, lk⟩
/-- the calls k deep -/
def fsOf (rs : List (FnR × List Z.S)) : List (Str × Nat × Nat) := rs.map fun q => (q.1.x, q.1.id, q.1.ps.length)
theorem fsOf_mem : ∀ {rs : List (FnR × List Z.S)} {x : Str} {f n : Nat}, (fsOf rs).lookup x = some (f, n) → ∃ q ∈ rs, q.1.x = x ∧ q.1.id = f ∧ q.1.ps.length = n
  | [], _, _, _, e => by cases e
  | q :: r, x, f, n, e => by
    unfold fsOf at e
    rw [List.map_cons, List.lookup_cons] at e
    split at e
    · rename_i hq
      cases e
      exact ⟨q, List.mem_cons_self .., (eq_of_beq hq).symm, rfl, rfl⟩
    · obtain ⟨q', h1, h2⟩ := fsOf_mem (rs := r) e
      exact ⟨q', List.mem_cons_of_mem _ h1, h2⟩
theorem fn_all {rs : List (FnR × List Z.S)} {Pz : Prg} (Fc : Facts P w K mg base W g) (hw : Pz.word = g.word) (hg : g.fs = fsOf rs) (ht : ∀ q ∈ rs, q.1.tr g = some q.2) (hd : ∀ q ∈ rs, Pz.defs q.1.id = some (q.1.def_ q.2))
    (hp : ∀ q ∈ rs, ∃ a fd, Placed K mg base W q.1 a fd) : ∀ k, ∀ q ∈ rs, ∃ a fd, FnOk P w K mg base (L2N.CX P w) (7 * k) a fd q.1.ps (spOf W q.1.ps.length (Pz.call k q.1.id)) ∧ mg q.1.x = some (.ref a) ∧ PySem.W.keepIn K (.ref a) = true ∧ Binds K fd q.1.ps [] ∧ ∃ oc od osl, K.lookup a = some ⟨oc, od, .func fd, osl⟩
  | 0, q, hq => by
    obtain ⟨a, fd, p⟩ := hp q hq
    exact ⟨a, fd, ⟨fun vs H Q E ⟨z, as, h, ra, rh, hl, q⟩ => q.elim, fun A outer s H args us vs Q E _ _ _ _ ⟨z, as, h, ra, rh, hl, q⟩ => q.elim⟩, p.mg, p.fn.kp, p.bd, p.fn.look⟩
  | k + 1, q, hq => by
    obtain ⟨a, fd, p⟩ := hp q hq
    have e : Pz.call (k + 1) q.1.id = runDef (Pz.ctx (Pz.call k)) (q.1.def_ q.2) := by
      funext vs h
      unfold Prg.call
      rw [hd q hq]
    rw [e]
    refine ⟨a, fd, fn_one (C := Pz.ctx (Pz.call k)) Fc hw p (ht q hq) fun x f n el => ?_, p.mg, p.fn.kp, p.bd, p.fn.look⟩
    rw [hg] at el
    obtain ⟨q', h1, rfl, rfl, rfl⟩ := fsOf_mem el
    obtain ⟨a', fd', F, hm, hk, hb, _⟩ := fn_all Fc hw hg ht hd hp k q' h1
    exact ⟨a', fd', q'.1.ps, F, hm, hk, hb⟩
end
end Z
-- ZT0
set_option Elab.async false
set_option linter.all false
set_option maxRecDepth 100000
set_option maxHeartbeats 2000000
/-! Layer ZT, part 0: from the head's facts to the defs of a law. -/
namespace Z
open PySem PySem.Spec PyProof.Rows L2
/-! ### binding of plain parameters -/
theorem zip_look {ps : List Str} {us : List Value} (hl : us.length = ps.length) : ∀ n ∈ ps, ((ps.zip us).lookup n).isNone = false := by
  induction ps generalizing us with
  | nil => intro n hn; cases hn
  | cons p r ih =>
    cases us with
    | nil => cases hl
    | cons u us =>
      intro n hn
      rw [List.zip_cons_cons, List.lookup_cons]
      cases e : n == p with
      | true => rfl
      | false =>
        rcases List.mem_cons.mp hn with q | q
        · rw [q] at e
          simp at e
        · exact ih (by simpa using hl) n q
theorem filterMap_zip {ps : List Str} {us : List Value} (hl : us.length = ps.length) (nd : ps.Nodup) : ps.filterMap (fun n => ((ps.zip us).lookup n).map fun v => (n, v)) = ps.zip us := by
  induction ps generalizing us with
  | nil => simp
  | cons p r ih =>
    cases us with
    | nil => cases hl
    | cons u us =>
      rw [List.zip_cons_cons, List.filterMap_cons, List.lookup_cons]
      simp only [beq_self_eq_true, Option.map_some]
      congr 1
      have key : ∀ n ∈ r, (List.lookup n ((p, u) :: r.zip us)).map (fun v => (n, v)) = ((r.zip us).lookup n).map fun v => (n, v) := fun n hn => by
        have ne : (n == p) = false := by
          cases e : n == p with
          | false => rfl
          | true =>
            rw [eq_of_beq e] at hn
            exact absurd hn (List.nodup_cons.mp nd).1
        rw [List.lookup_cons, ne]
      have : ∀ l : List Str, (∀ n ∈ l, n ∈ r) → l.filterMap (fun n => (List.lookup n ((p, u) :: r.zip us)).map fun v => (n, v)) = l.filterMap fun n => ((r.zip us).lookup n).map fun v => (n, v) := fun l => by
        induction l with
        | nil => intro _; rfl
        | cons a l ihl =>
          intro h
          rw [List.filterMap_cons, List.filterMap_cons, key a (h a (List.mem_cons_self ..)), ihl fun n hn => h n (List.mem_cons_of_mem _ hn)]
      exact (this r fun _ h => h).trans (ih (by simpa using hl) (List.nodup_cons.mp nd).2)
theorem bind_plain {x q : Str} {as : List Arg} {body : List Stmt} {scope : Scope} {kV doc pm : Value} {an : Option Addr} {cdv ct : Value} {us : List Value} (hl : us.length = as.length) (nd : (as.map (·.arg)).Nodup) :
    bindArgs (PySem.W.fnOf x q ⟨[], as, none, [], [], none, []⟩ body scope .none kV doc pm an cdv ct) ⟨us, []⟩ = pure ((as.map (·.arg)).zip us) := by
  unfold bindArgs
  have h1 : seqItems? Value.none = pure none := rfl
  have e : (as.map (·.arg)).length = us.length := by rw [List.length_map, hl]
  have e3 : ((as.map (·.arg)).take as.length).filter (fun n => (((as.map (·.arg)).zip us).lookup n).isNone) = [] := by
    rw [List.take_of_length_le (by simp), List.filter_eq_nil_iff]
    intro n hn
    rw [zip_look (by rw [e]) n hn]
    decide
  simp [PySem.W.fnOf, h1, e3, hl]
  have k := filterMap_zip (us := us) (by rw [e]) nd
  rw [List.filterMap_map] at k
  exact congrArg pure k
def plainArgs : Arguments → Option (List Str)
  | ⟨[], as, none, [], [], none, []⟩ => some (as.map (·.arg))
  | _ => none
theorem plainArgs_bind {a : Arguments} {ps : List Str} (h : plainArgs a = some ps) (nd : ps.Nodup) {x q : Str} {body : List Stmt} {scope : Scope} {kV doc pm : Value} {an : Option Addr} {cdv ct : Value} {us : List Value} (hl : us.length = ps.length) :
    bindArgs (PySem.W.fnOf x q a body scope .none kV doc pm an cdv ct) ⟨us, []⟩ = pure (ps.zip us) := by
  unfold plainArgs at h
  split at h
  · cases h
    exact bind_plain (by simpa using hl) nd
  · cases h
/-! ### the text of _law_outcome, _law_raises -/
def outBody (P : Nat → Pos) : List Stmt :=
  [.Try [.Return (some (.Tuple [.Constant (.str "value") 0 (P 0), .Call (.Name "call" (P 1)) [] [] (P 2)] 0 (P 3))) (P 4)]
    [.ExceptHandler (some (.Name "SchemaError" (P 5))) (some "e") [.Return (some (.Tuple [.Constant (.str "error") 0 (P 6), .Call (.Name "_law_errors" (P 7)) [.Name "e" (P 8)] [] (P 9),
      .IfExp (.Call (.Name "isinstance" (P 10)) [.Name "e" (P 11), .Name "StepFails" (P 12)] [] (P 13)) (.Attribute (.Name "e" (P 14)) "number" (P 15)) (.Constant .none 0 (P 16)) (P 17)] 0 (P 18))) (P 19)] (P 20)] [] [] (P 21)]
def outP : List Stmt → List Pos
  | [.Try [.Return (some (.Tuple [.Constant _ _ p0, .Call (.Name _ p1) _ _ p2] _ p3)) p4] [.ExceptHandler (some (.Name _ p5)) _ [.Return (some (.Tuple [.Constant _ _ p6, .Call (.Name _ p7) [.Name _ p8] _ p9,
      .IfExp (.Call (.Name _ p10) [.Name _ p11, .Name _ p12] _ p13) (.Attribute (.Name _ p14) _ p15) (.Constant _ _ p16) p17] _ p18)) p19] p20] _ _ p21] =>
    [p0, p1, p2, p3, p4, p5, p6, p7, p8, p9, p10, p11, p12, p13, p14, p15, p16, p17, p18, p19, p20, p21]
  | _ => []
def raiBody (P : Nat → Pos) : List Stmt :=
  [.Return (some (.Compare (.Call (.Name "_law_outcome" (P 0)) [.Name "call" (P 1)] [] (P 2)) [.Eq] [.Tuple [.Constant (.str "error") 0 (P 3), .BinOp (.Name "word" (P 4)) .Add (.Constant (.str " base") 0 (P 5)) (P 6), .Constant .none 0 (P 7)] 0 (P 8)] (P 9))) (P 10)]
def raiP : List Stmt → List Pos
  | [.Return (some (.Compare (.Call (.Name _ p0) [.Name _ p1] _ p2) _ [.Tuple [.Constant _ _ p3, .BinOp (.Name _ p4) _ (.Constant _ _ p5) p6, .Constant _ _ p7] _ p8] p9)) p10] => [p0, p1, p2, p3, p4, p5, p6, p7, p8, p9, p10]
  | _ => []
def posAt (l : List Pos) (n : Nat) : Pos := l.getD n ⟨0, 0, 0, 0⟩
/-- the positions of _law_errors, by their numbers in errBody -/
def isCP (n : Nat) : Expr → List (Nat × Pos)
  | .Call (.Name _ a) [.Name _ b, .Name _ c] _ d => [(n, a), (n + 1, b), (n + 2, c), (n + 3, d)]
  | _ => []
def isLP : Nat → List Expr → List (Nat × Pos)
  | _, [] => []
  | n, e :: r => isCP n e ++ isLP (n + 4) r
def addSP (n : Nat) : Stmt → List (Nat × Pos)
  | .Assign [.Name _ a] (.BinOp (.Name _ b) _ (.List l c) d) e => [(n, a), (n + 1, b), (n + 2, c), (n + 3, d), (n + 4, e)] ++ isLP (n + 5) l
  | _ => []
def tgtP (n : Nat) : Expr → List (Nat × Pos)
  | .Tuple [.Name _ a, .Name _ b] _ c => [(n, a), (n + 1, b), (n + 2, c)]
  | _ => []
def errS0 : Stmt → List (Nat × Pos)
  | .Assign [.Name _ p0] (.List l p1) p2 => [(0, p0), (1, p1), (2, p2)] ++ isLP 5 l
  | _ => []
def errS6 : Stmt → List (Nat × Pos)
  | .Assign [.Name _ p0] (.Constant _ _ p1) p2 => [(240, p0), (241, p1), (242, p2)]
  | _ => []
def errS7 : Stmt → List (Nat × Pos)
  | .Assign [.Name _ p0] (.BinOp (.Name _ p1) _ (.Constant _ _ p2) p3) p4 => [(243, p0), (244, p1), (245, p2), (246, p3), (247, p4)]
  | _ => []
def errS8 : Stmt → List (Nat × Pos) × Option Scope
  | .Assign [.Name _ p0] (.ListComp (.Name _ p1) [⟨t, .Call (.Name _ p2) [.Call (.Attribute (.Name _ p3) _ p4) [.Constant _ _ p5] _ p6, .Name _ p7] _ p8, [.Name _ p9], _⟩] sc p10) p11 =>
    ([(248, p0), (249, p1), (253, p2), (254, p3), (255, p4), (256, p5), (257, p6), (258, p7), (259, p8), (260, p9), (261, p10), (262, p11)] ++ tgtP 250 t, some sc)
  | _ => ([], none)
def errS9 : Stmt → List (Nat × Pos) × Option Scope
  | .Return (some (.Call (.Attribute (.Constant _ _ p0) _ p1) [.BinOp (.Name _ p2) _ (.ListComp (.Name _ p3) [⟨t, .List [.Tuple [.Constant _ _ p4, c] _ p5] p6, [.Name _ p7], _⟩] sc p8) p9] _ p10)) p11 =>
    ([(263, p0), (264, p1), (265, p2), (266, p3), (270, p4), (275, p5), (276, p6), (277, p7), (278, p8), (279, p9), (280, p10), (281, p11)] ++ tgtP 267 t ++ isCP 271 c, some sc)
  | _ => ([], none)
def errAll : List Stmt → List (Nat × Pos)
  | [s0, s1, s2, s3, s4, s5, s6, s7, s8, s9] => errS0 s0 ++ addSP 40 s1 ++ addSP 80 s2 ++ addSP 120 s3 ++ addSP 160 s4 ++ addSP 200 s5 ++ errS6 s6 ++ errS7 s7 ++ (errS8 s8).1 ++ (errS9 s9).1
  | _ => []
def errSc : List Stmt → Option (Scope × Scope)
  | [_, _, _, _, _, _, _, _, s8, s9] => (errS8 s8).2.bind fun a => (errS9 s9).2.map fun b => (a, b)
  | _ => none
def errPos (b : List Stmt) (n : Nat) : Pos := ((errAll b).lookup n).getD ⟨0, 0, 0, 0⟩
end Z
-- ZT1
set_option Elab.async false
set_option linter.all false
set_option maxRecDepth 100000
set_option maxHeartbeats 2000000
/-! Layer ZT, part 1: a law's program as a datum; what the head must say of it. -/
namespace Z
open PySem PySem.Spec PyProof.Rows L2
structure LD where
  /-- the defs that are translated -/
  defs : List FnR
  err : FnR
  out : FnR
  rai : FnR
  hasL : Bool
  hasR : Bool
  /-- the classes of exceptions that are raised -/
  cls : List Str
  cons : List (Str × PV)
  bs : List Str
def numb : Nat → List Str → List (Str × Nat)
  | _, [] => []
  | n, x :: r => (x, n) :: numb (n + 1) r
theorem numb_ok : ∀ {xs : List Str} {n c : Nat} {x : Str}, (numb n xs).lookup x = some c → n ≤ c ∧ xs[c - n]? = some x
  | [], _, _, _, h => by cases h
  | y :: r, n, c, x, h => by
    unfold numb at h
    rw [List.lookup_cons] at h
    split at h
    · rename_i q
      cases h
      refine ⟨Nat.le_refl _, ?_⟩
      rw [Nat.sub_self, eq_of_beq q]
      rfl
    · obtain ⟨h1, h2⟩ := numb_ok h
      refine ⟨by omega, ?_⟩
      have e : c - n = (c - (n + 1)) + 1 := by omega
      rw [e, List.getElem?_cons_succ]
      exact h2
def wordsOf (x : Str) : Str := ZL.errWords (ZL.cAll.map fun y => y == x)
namespace LD
variable (d : LD)
def g : Env0s := { fs := d.defs.map fun r => (r.x, r.id, r.ps.length), bs := d.bs, gs := d.cons, xs := numb 0 d.cls, lam := d.hasL, rai := d.hasR, word := fun c => (d.cls[c]?).map fun x => (wordsOf x).cps.toList }
def clsAt (c : Nat) : Str := d.cls.getD c ""
def tf : List He.Defn := (d.defs.filter (·.lam)).map fun r => (r.x, none)
def sta (K : PySem.W.Frag) : Sta := { K := K, ca := fun _ => 0, an := fun _ => "", xa := fun c => He.ga K (d.clsAt c), T := d.tf.map fun p => ((He.cT K p).2, lamQ p.1) }
def sp : List FnR := (if d.hasL then [d.err, d.out] else []) ++ (if d.hasR then [d.rai] else [])
end LD
def defD (r : FnR) : He.DefD := ⟨(r.x, none), r.x, r.x, r.args, r.body, r.scope, [], []⟩
namespace LD
variable (d : LD)
def fn : List He.DefD := (d.defs ++ d.sp).map defD
def lamFa : List He.Fa := [.glo "SchemaError", .glo "StepFails", .free "isinstance", .free "zip", .free "ValueError"] ++ ZL.cAll.map .glo
def fa : List He.Fa := d.fn.map (fun q => .glo q.name) ++ d.bs.map .free ++ d.cls.map .glo ++ d.cls.map .exc ++ (if d.hasL then lamFa else [])
end LD
/-! ### constants -/
def dvOf : PV → He.Dv
  | .non => .non
  | .bl b => .bl b
  | .int i => .int i
  | .str s => .str (toS s)
  | _ => .non
def simpV : PV → Bool
  | .non | .bl _ | .int _ => true
  | .str s => okS s && decide (s.length ≤ 1000000)
  | _ => false
def conB (K : PySem.W.Frag) (x : Str) : PV → Bool
  | .int i => (He.Fa.int x i).ok K
  | .str s => (He.Fa.str x (toS s)).ok K && simpV (.str s)
  | .tup vs => (He.Fa.glo x).ok K && He.tupB K x (vs.map dvOf) && vs.all simpV
  | _ => false
theorem simp_rv {W : Sta} {z : Zn} {K : PySem.W.Frag} {v : PV} (h : simpV v = true) : RV W z v ((dvOf v).v K) := by
  cases v with
  | non => rfl
  | bl b => rfl
  | int i => rfl
  | str s =>
    have h' : (okS s && decide (s.length ≤ 1000000)) = true := h
    simp only [Bool.and_eq_true, decide_eq_true_eq] at h'
    refine ⟨rfl, ?_, h'.1⟩
    rw [sizeLine_eq]
    omega
  | _ => cases h
theorem simp_rvs {W : Sta} {z : Zn} {K : PySem.W.Frag} : ∀ {vs : List PV}, vs.all simpV = true → RVs W z vs ((vs.map dvOf).map (He.Dv.v K))
  | [], _ => RVs.nil
  | v :: r, h => by
    rw [List.all_cons, Bool.and_eq_true] at h
    exact RVs.cons (simp_rv h.1) (simp_rvs h.2)
theorem con_ok {K : PySem.W.Frag} {h : Heap} {mg : Str → Option Value} {W : Sta} (hW : W.K = K) (X : K.In h) (G : h.Ns mainGlobals mg) {x : Str} {v : PV} (c : conB K x v = true) : ∃ u, (∀ z, RV W z v u) ∧ ∃ uu, mg x = some uu ∧ RelV u uu := by
  cases v with
  | int i =>
    obtain ⟨t, e⟩ := He.int_ok X G c
    exact ⟨.int i, fun _ => rfl, _, e, t, rfl⟩
  | str s =>
    have c' : ((He.Fa.str x (toS s)).ok K && simpV (.str s)) = true := c
    rw [Bool.and_eq_true] at c'
    obtain ⟨t, e⟩ := He.str_ok X G c'.1
    exact ⟨.str (toS s), fun z => simp_rv (W := W) (z := z) (K := K) c'.2, _, e, t, rfl⟩
  | tup vs =>
    have c' : ((He.Fa.glo x).ok K && He.tupB K x (vs.map dvOf) && vs.all simpV) = true := c
    simp only [Bool.and_eq_true] at c'
    obtain ⟨⟨c1, c2⟩, c3⟩ := c'
    refine ⟨.ref (He.ga K x), fun z => ⟨_, _, rfl, ?_, simp_rvs (K := K) c3⟩, _, He.glo_ok X G c1, rfl⟩
    rw [hW]
    exact He.tupB_ok c2 z.fz
  | _ => cases c
/-! ### the exceptions' classes -/
def excCB (K : PySem.W.Frag) (D : Addr) : Bool :=
  He.eqO (PySem.W.findIn K (.ref D) "__getattribute__") (some (some (.builtin "BaseException.__getattribute__"))) && He.eqO (PySem.W.findIn K (.ref D) "__getattr__") (some none) &&
  decide (PySem.W.subIn K (.ref D) (.type "BaseException") = some true) && PySem.W.hasDictIn K D && He.eqO (PySem.W.findIn K (.ref D) "__class__") (some (some (.builtin "object.__class__"))) &&
  He.eqO (PySem.W.specialIn K (.builtin "object.__class__") "__get__") (some (some (.builtin "getset_descriptor.__get__"))) && decide (PySem.W.takesIn K (.builtin "object.__class__") = some true) && decide (PySem.W.mroIn K D (.type "object") = some true)
theorem excC_of {K : PySem.W.Frag} {D : Addr} (h : excCB K D = true) : ExcC K D := by
  unfold excCB at h
  simp only [Bool.and_eq_true, decide_eq_true_eq] at h
  obtain ⟨⟨⟨⟨⟨⟨⟨h1, h2⟩, h3⟩, h4⟩, h5⟩, h6⟩, h7⟩, h8⟩ := h
  exact ⟨He.eqO_ok h1, He.eqO_ok h2, h3, h4, He.eqO_ok h5, He.eqO_ok h6, h7, h8⟩
def clsB (K : PySem.W.Frag) (x : Str) : Bool :=
  decide (PySem.W.exmOne K (.ref (He.ga K x)) (.ref (He.ga K "SchemaError")) = some true) && decide (PySem.W.kitOne K (.ref (He.ga K x)) (.ref (He.ga K "StepFails")) = some false) && excCB K (He.ga K x) &&
  (ZL.cAll.all fun y => decide (PySem.W.kitOne K (.ref (He.ga K x)) (.ref (He.ga K y)) = some (y == x))) && decide (PySem.W.kitOne K (.ref (He.ga K x)) (.type "ValueError") = some true)
namespace LD
variable (d : LD)
def ex (K : PySem.W.Frag) : Bool := (d.cons.all fun q => conB K q.1 q.2) && decide ((d.tf.map fun p => (He.cT K p).2).Nodup) && (!d.hasL || ((d.cls.all fun x => clsB K x) && decide ((d.cls.map (He.ga K)).Nodup)))
def wordA (K : PySem.W.Frag) (D : Addr) : Option Str := (d.cls.find? fun x => He.ga K x == D).map wordsOf
/-- what must be seen of the texts -/
structure Txt : Prop where
  errX : d.err.x = "_law_errors"
  outX : d.out.x = "_law_outcome"
  raiX : d.rai.x = "_law_raises"
  errA : plainArgs d.err.args = some (["e"] : List Str)
  outA : plainArgs d.out.args = some (["call"] : List Str)
  raiA : plainArgs d.rai.args = some (["call", "word"] : List Str)
  err : ∃ sc1 sc2, d.err.body = ZL.errBody (errPos d.err.body) sc1 sc2 ∧ ZL.errTB (errPos d.err.body) sc1 sc2 d.err.scope = true
  out : d.out.body = outBody (posAt (outP d.out.body))
  rai : d.rai.body = raiBody (posAt (raiP d.rai.body))
  outS : fnScopeB ["call", "e"] ["call"] d.out.scope = true
  raiS : fnScopeB ["call", "word"] ["call", "word"] d.rai.scope = true
  outN : d.out.scope.names.lookup ("e" : Str) = some .local ∧ (["SchemaError", "StepFails", "_law_errors", "isinstance"] : List Str).all (fun x => decide (d.out.scope.names.lookup x = some .globalImplicit)) = true
  raiN : d.rai.scope.names.lookup ("_law_outcome" : Str) = some .globalImplicit
  defs : d.defs.all (fun r => decide (plainArgs r.args = some r.ps) && decide r.ps.Nodup) = true
  word : d.cls.all (fun x => okS (wordsOf x).cps.toList && decide ((wordsOf x).cps.toList.length ≤ 1000)) = true
end LD
end Z
-- ZT2
set_option Elab.async false
set_option linter.all false
set_option maxRecDepth 100000
set_option maxHeartbeats 2000000
/-! Layer ZT, part 2: what the head says, as the layer wants it. -/
namespace Z
open PySem PySem.Spec PyProof.Rows L2
theorem find_nodup {α β : Type} [BEq β] [LawfulBEq β] {f : α → β} : ∀ {l : List α} {x : α}, (l.map f).Nodup → x ∈ l → l.find? (fun y => f y == f x) = some x
  | [], _, _, h => by cases h
  | y :: r, x, nd, h => by
    rw [List.find?_cons]
    rcases List.mem_cons.mp h with e | h
    · rw [e]
      simp
    · have ne : (f y == f x) = false := by
        cases q : f y == f x with
        | false => rfl
        | true =>
          have e := eq_of_beq q
          rw [List.map_cons, List.nodup_cons] at nd
          exact absurd (List.mem_map.mpr ⟨x, h, e.symm⟩) nd.1
      rw [ne]
      exact find_nodup (List.nodup_cons.mp (by simpa using nd)).2 h
theorem inj_nodup {α β : Type} {f : α → β} : ∀ {l : List α} {x y : α}, (l.map f).Nodup → x ∈ l → y ∈ l → f x = f y → x = y
  | [], _, _, _, h, _, _ => by cases h
  | a :: r, x, y, nd, hx, hy, e => by
    rw [List.map_cons, List.nodup_cons] at nd
    rcases List.mem_cons.mp hx with e1 | hx
    · rcases List.mem_cons.mp hy with e2 | hy
      · rw [e1, e2]
      · exact absurd (List.mem_map.mpr ⟨y, hy, by rw [← e, e1]⟩) nd.1
    · rcases List.mem_cons.mp hy with e2 | hy
      · exact absurd (List.mem_map.mpr ⟨x, hx, by rw [e, e2]⟩) nd.1
      · exact inj_nodup nd.2 hx hy e
theorem toS_cps (s : Str) : toS s.cps.toList = s := by simp
section
variable {P : Program} {d : LD} {w : World} {h : Heap} {K : PySem.W.Frag} {mg : Str → Option Value} {ts : List He.Tab} {base : Heap}
theorem bindR {r : FnR} {a : Addr} {fd : FuncData} {ps : List Str} (F : FunD K r.x r.x r.args r.body r.scope [] [] a fd) (hp : plainArgs r.args = some ps) (nd : ps.Nodup) : Binds K fd ps [] :=
  F.bindsN fun _ _ _ _ _ _ us hl => plainArgs_bind hp nd hl
theorem says_fun (X : K.In h) (G : h.Ns mainGlobals mg) (c : He.SaysX d.fa d.fn ts d.tf d.ex w h K) {r : FnR} (hr : r ∈ d.defs ++ d.sp) : ∃ fd, FunD K r.x r.x r.args r.body r.scope [] [] (He.ga K r.x) fd ∧ mg r.x = some (.ref (He.ga K r.x)) := by
  have hm : defD r ∈ d.fn := List.mem_map.mpr ⟨r, hr, rfl⟩
  obtain ⟨fd, F⟩ := c.t.d.defs hm
  have hf : He.Fa.glo r.x ∈ d.fa := by
    unfold LD.fa
    simp only [List.mem_append]
    exact .inl (.inl (.inl (.inl (List.mem_map.mpr ⟨defD r, hm, rfl⟩))))
  exact ⟨fd, F, He.glo_ok X G (c.t.d.facts hf)⟩
theorem says_cls (X : K.In h) (G : h.Ns mainGlobals mg) (c : He.SaysX d.fa d.fn ts d.tf d.ex w h K) {x : Str} (hx : x ∈ d.cls) : mg x = some (.ref (He.ga K x)) ∧ (He.Fa.exc x).ok K = true := by
  refine ⟨He.glo_ok X G (c.t.d.facts ?_), c.t.d.facts ?_⟩
  · unfold LD.fa
    simp only [List.mem_append]
    exact .inl (.inl (.inr (List.mem_map.mpr ⟨x, hx, rfl⟩)))
  · unfold LD.fa
    simp only [List.mem_append]
    exact .inl (.inr (List.mem_map.mpr ⟨x, hx, rfl⟩))
theorem says_lam (hl : d.hasL = true) (c : He.SaysX d.fa d.fn ts d.tf d.ex w h K) {f : He.Fa} (hf : f ∈ LD.lamFa) : f.ok K = true := by
  refine c.t.d.facts ?_
  unfold LD.fa
  rw [hl]
  exact List.mem_append_right _ hf
theorem ex_ok (c : He.SaysX d.fa d.fn ts d.tf d.ex w h K) : (∀ q ∈ d.cons, conB K q.1 q.2 = true) ∧ (d.tf.map fun p => (He.cT K p).2).Nodup ∧ (d.hasL = true → (∀ x ∈ d.cls, clsB K x = true) ∧ (d.cls.map (He.ga K)).Nodup) := by
  have e := c.more
  unfold LD.ex at e
  simp only [Bool.and_eq_true, Bool.or_eq_true, Bool.not_eq_true', decide_eq_true_eq, List.all_eq_true] at e
  obtain ⟨⟨e1, e2⟩, e3⟩ := e
  refine ⟨e1, e2, fun hl => ?_⟩
  rcases e3 with e3 | e3
  · rw [hl] at e3
    cases e3
  · exact e3
theorem outs_of (T : d.Txt) (hl : d.hasL = true) (X : K.In h) (G : h.Ns mainGlobals mg) (c : He.SaysX d.fa d.fn ts d.tf d.ex w h K) (Y : Cx) (q : Str) (hK : Y.K = K) (hm : Y.mg = mg) :
    ∃ (oc : Value) (od : Option Addr) (dV kV doc pm : Value) (an : Option Addr) (cdv ct : Value) (osl : Array (Option Value)),
      K.lookup (He.ga K "_law_outcome") = some ⟨oc, od, .func (PySem.W.fnOf "_law_outcome" "_law_outcome" d.out.args d.out.body d.out.scope dV kV doc pm an cdv ct), osl⟩ ∧ PySem.W.codeIn K cdv "_law_outcome" = true ∧
      mg "_law_outcome" = some (.ref (He.ga K "_law_outcome")) ∧ PySem.W.keepIn K (.ref (He.ga K "_law_outcome")) = true ∧ Binds K (PySem.W.fnOf "_law_outcome" "_law_outcome" d.out.args d.out.body d.out.scope dV kV doc pm an cdv ct) ["call"] [] ∧
      ZL.GivesToN Y ["call", "e"] "_law_outcome" d.out.scope (He.ga K "_law_outcome") cdv d.out.body "call" q (ZL.TTo K (He.ga K "SchemaError") (He.ga K "StepFails") (d.wordA K)) := by
  obtain ⟨fd, F, mo⟩ := says_fun X G c (r := d.out) (by unfold LD.sp; rw [hl]; simp)
  obtain ⟨fe, Fe, me⟩ := says_fun X G c (r := d.err) (by unfold LD.sp; rw [hl]; simp)
  have B := bindR F T.outA (by decide +kernel)
  have Be := bindR Fe T.errA (by decide +kernel)
  rw [T.outX] at F mo
  rw [T.errX] at Fe me
  have kp := F.kp
  obtain ⟨oc, od, dV, kV, doc, pm, an, cdv, ct, osl, rfl, lk, hcd, hD, _⟩ := F.ex
  refine ⟨oc, od, dV, kV, doc, pm, an, cdv, ct, osl, lk, hcd, mo, kp, B, ?_⟩
  obtain ⟨sc1, sc2, hb, htb⟩ := T.err
  rw [hb] at Fe
  have ET := ZL.errT_of htb
  obtain ⟨_, _, e3⟩ := ex_ok c
  obtain ⟨ecls, _⟩ := e3 hl
  have lf : ∀ f ∈ LD.lamFa, f.ok K = true := fun f hf => says_lam hl c hf
  have wd : ∀ D u, d.wordA K D = some u → ∃ x ∈ d.cls, He.ga K x = D ∧ u = wordsOf x := fun D u e => by
    unfold LD.wordA at e
    obtain ⟨x, e1, e2⟩ := Option.map_eq_some_iff.mp e
    exact ⟨x, List.mem_of_find?_eq_some e1, eq_of_beq (by have := List.find?_some e1; exact this), e2.symm⟩
  have free : ∀ x, He.Fa.free x ∈ LD.lamFa → mg x = none := fun x hx => He.free_ok X G (lf _ hx)
  have glo : ∀ x, He.Fa.glo x ∈ LD.lamFa → mg x = some (.ref (He.ga K x)) := fun x hx => He.glo_ok X G (lf _ hx)
  have mAll : ∀ y ∈ ZL.cAll, He.Fa.glo y ∈ LD.lamFa := fun y hy => by
    unfold LD.lamFa
    exact List.mem_append_right _ (List.mem_map.mpr ⟨y, hy, rfl⟩)
  have hN := T.outN
  simp only [List.all_cons, List.all_nil, Bool.and_eq_true, decide_eq_true_eq, Bool.and_true] at hN
  obtain ⟨n1, n2, n3, n4, n5⟩ := hN
  rw [T.out]
  subst hK hm
  refine ZL.outcome_gives (kE := 0) (fdE := fe) (psE := ["e"]) (gE := He.ga Y.K "_law_errors") rfl n1 n2 n3 n4 n5 (glo _ (by unfold LD.lamFa; simp)) (glo _ (by unfold LD.lamFa; simp)) me (free _ (by unfold LD.lamFa; simp)) Fe.kp Be (fun D u e => ?_) (fun p D u e hz hf => ?_)
  · obtain ⟨x, hx, rfl, _⟩ := wd D u e
    have cb := ecls x hx
    unfold clsB at cb
    simp only [Bool.and_eq_true] at cb
    exact excC_of cb.1.1.2
  · obtain ⟨x, hx, rfl, rfl⟩ := wd D u e
    have cb := ecls x hx
    unfold clsB at cb
    simp only [Bool.and_eq_true, decide_eq_true_eq, List.all_eq_true] at cb
    obtain ⟨⟨⟨⟨b1, b2⟩, b3⟩, b4⟩, b5⟩ := cb
    exact ZL.err_fn (k := 1) (cls := He.ga Y.K) (bD := fun y => y == x) ET Fe ⟨excC_of b3, ⟨free _ (by unfold LD.lamFa; simp), free _ (by unfold LD.lamFa; simp), free _ (by unfold LD.lamFa; simp)⟩, fun y hy => ⟨glo _ (mAll y hy), b4 y hy⟩, b5⟩ hz hf
theorem facts_of (T : d.Txt) (X : K.In h) (G : h.Ns mainGlobals mg) (c : He.SaysX d.fa d.fn ts d.tf d.ex w h K) : Facts P w K mg base (d.sta K) d.g where
  hK := rfl
  bs := fun x hx => He.free_ok X G (c.t.d.facts (by
    unfold LD.fa
    simp only [List.mem_append]
    exact .inl (.inl (.inl (.inr (List.mem_map.mpr ⟨x, List.contains_iff_mem.mp hx, rfl⟩))))))
  gs := fun x v hv => con_ok rfl X G ((ex_ok c).1 (x, v) (PySem.mem_of_lookup hv))
  xs := fun x n hn => by
    obtain ⟨_, e⟩ := numb_ok hn
    rw [Nat.sub_zero] at e
    have hx := List.mem_of_getElem? e
    obtain ⟨m1, m2⟩ := says_cls X G c hx
    have ec : (d.sta K).xa n = He.ga K x := by
      show He.ga K (d.cls.getD n "") = _
      rw [List.getD_eq_getElem?_getD, e]
      rfl
    rw [ec]
    obtain ⟨h1, h2, h3, h4⟩ := He.exc_ok m2
    exact ⟨m1, h1, h2, h3, h4⟩
  lam := fun hl => by
    have hl : d.hasL = true := hl
    obtain ⟨_, _, e3⟩ := ex_ok c
    obtain ⟨ecls, nd⟩ := e3 hl
    refine ⟨He.ga K "SchemaError", He.ga K "StepFails", d.wordA K, fun n u hu => ?_, fun X' h1 h2 h3 h4 h5 => ⟨?_, fun hr => ?_⟩⟩
    · obtain ⟨x, e1, rfl⟩ := Option.map_eq_some_iff.mp hu
      have hx := List.mem_of_getElem? e1
      have ec : (d.sta K).xa n = He.ga K x := by
        show He.ga K (d.cls.getD n "") = _
        rw [List.getD_eq_getElem?_getD, e1]
        rfl
      rw [ec]
      have cb := ecls x hx
      unfold clsB at cb
      simp only [Bool.and_eq_true, decide_eq_true_eq, List.all_eq_true] at cb
      obtain ⟨⟨⟨⟨b1, b2⟩, b3⟩, b4⟩, b5⟩ := cb
      have w1 := List.all_eq_true.mp T.word x hx
      simp only [Bool.and_eq_true, decide_eq_true_eq] at w1
      refine ⟨b1, b2, ?_, w1.1, w1.2⟩
      unfold LD.wordA
      rw [find_nodup nd hx, toS_cps]
      rfl
    · subst h1 h2 h3 h4 h5
      obtain ⟨oc, od, dV, kV, doc, pm, an, cdv, ct, osl, lk, hcd, mo, kp, B, _⟩ := outs_of T hl X G c X' "" rfl rfl
      refine ⟨_, oc, od, d.out.args, d.out.body, d.out.scope, dV, kV, doc, pm, an, cdv, ct, osl, mo, kp, lk, hcd, B, fnScope_of T.outS, fun Y q y1 y2 y3 y4 y5 => ?_⟩
      obtain ⟨oc', od', dV', kV', doc', pm', an', cdv', ct', osl', lk', hcd', _, _, _, gv⟩ := outs_of T hl X G c Y q y3 y4
      rw [lk] at lk'
      cases lk'
      exact gv
    · subst h1 h2 h3 h4 h5
      have hr : d.hasR = true := hr
      obtain ⟨oc, od, dV, kV, doc, pm, an, cdv, ct, osl, lk, hcd, mo, kp, B, _⟩ := outs_of T hl X G c X' "" rfl rfl
      obtain ⟨fr, Fr, mr⟩ := says_fun X G c (r := d.rai) (by unfold LD.sp; rw [hr]; simp)
      have Br := bindR Fr T.raiA (by decide +kernel)
      rw [T.raiX] at Fr mr
      have kpr := Fr.kp
      obtain ⟨oc2, od2, dV2, kV2, doc2, pm2, an2, cdv2, ct2, osl2, rfl, lk2, hcd2, _, _⟩ := Fr.ex
      refine ⟨_, oc2, od2, d.rai.args, d.rai.body, d.rai.scope, dV2, kV2, doc2, pm2, an2, cdv2, ct2, osl2, mr, kpr, lk2, hcd2, Br, fnScope_of T.raiS, fun q => ?_⟩
      rw [T.rai]
      refine ZL.raises_gives (W := d.sta X'.K) rfl mo kp T.raiN lk hcd B (fnScope_of T.outS) (fnScope_of T.raiS) fun Y y1 y2 y3 y4 y5 => ?_
      obtain ⟨oc', od', dV', kV', doc', pm', an', cdv', ct', osl', lk', hcd', _, _, _, gv⟩ := outs_of T hl X G c Y q y3 y4
      rw [lk] at lk'
      cases lk'
      exact gv
theorem placed_of (T : d.Txt) (X : K.In h) (G : h.Ns mainGlobals mg) (c : He.SaysX d.fa d.fn ts d.tf d.ex w h K) (TB : ∀ p ∈ d.tf.map (He.cT K), LamX.TabB base mg p.1 p.2) {r : FnR} (hr : r ∈ d.defs) : ∃ fd, Placed K mg base (d.sta K) r (He.ga K r.x) fd := by
  obtain ⟨fd, F, mr⟩ := says_fun X G c (r := r) (List.mem_append_left _ hr)
  have T1 := List.all_eq_true.mp T.defs r hr
  simp only [Bool.and_eq_true, decide_eq_true_eq] at T1
  refine ⟨fd, F, fun hl => ?_, mr, bindR F T1.1 T1.2⟩
  have ht : ((r.x, none) : He.Defn) ∈ d.tf := List.mem_map.mpr ⟨r, List.mem_filter.mpr ⟨hr, hl⟩, rfl⟩
  obtain ⟨_, nd, _⟩ := ex_ok c
  obtain ⟨oc, od, dV, kV, doc, pm, an, cdv, ct, osl, rfl, lk, hcd, _, _⟩ := F.ex
  obtain ⟨cc, rfl⟩ := He.codeIn_ref hcd
  have ecc : He.codeOf K (r.x, none) = cc := He.codeOf_eq (p := (r.x, none)) lk rfl
  refine ⟨(He.cT K (r.x, none)).1, (He.cT K (r.x, none)).2, TB _ (List.mem_map.mpr ⟨_, ht, rfl⟩), ?_, List.mem_map.mpr ⟨_, ht, rfl⟩, fun p hp e => ?_⟩
  · show Value.ref cc = .ref (He.codeOf K (r.x, none))
    rw [ecc]
  · obtain ⟨q, hq, rfl⟩ := List.mem_map.mp hp
    have : q = (r.x, none) := inj_nodup nd hq ht e
    rw [this]
end
end Z
-- ZT3
set_option Elab.async false
set_option linter.all false
set_option maxRecDepth 100000
set_option maxHeartbeats 2000000
/-! Layer ZT, part 3: the end of a law. -/
namespace Z
open PySem PySem.Spec PyProof.Rows L2
def LD.rs (d : LD) (bs : List (List S)) : List (FnR × List S) := d.defs.zip bs
theorem mapO_zip {α β : Type} {f : α → Option β} : ∀ {as : List α} {bs : List β}, mapO f as = some bs → as.length = bs.length ∧ ∀ q ∈ as.zip bs, f q.1 = some q.2
  | [], bs, h => by
    cases h
    exact ⟨rfl, fun q hq => by cases hq⟩
  | a :: r, bs, h => by
    obtain ⟨b, e1, e2⟩ := Option.bind_eq_some_iff.mp h
    obtain ⟨bs', e3, rfl⟩ := Option.map_eq_some_iff.mp e2
    obtain ⟨h1, h2⟩ := mapO_zip e3
    refine ⟨by simp [h1], fun q hq => ?_⟩
    rw [List.zip_cons_cons] at hq
    rcases List.mem_cons.mp hq with e | hq
    · rw [e]
      exact e1
    · exact h2 q hq
theorem law_end {l : PySem.W.OpenLaw} {n m kk : Nat} {Pz : Prg} {ws : List (List Nat)} {q : Program} {loose : List Str} {XP : (Str → Option Value) → Heap → Prop} {dr : DefRec} {d : LD} {bs : List (List S)} {ts : List He.Tab} {r : FnR}
    (hn : l.most = some n) (hn2 : n ≤ sizeLine) (hdf : dr.params.defaults = []) (hname : dr.name = "law") (hr : Room (7 * kk) callerA) (T : d.Txt) (ht : mapO (fun r => r.tr d.g) d.defs = some bs) (hPz : (d.rs bs).map (fun q => Pz.defs q.1.id) = (d.rs bs).map fun q => some (q.1.def_ q.2)) (hws : d.cls.map (fun x => (wordsOf x).cps.toList) = ws) (hw : Pz.word = fun c => ws[c]?)
    (hm : r ∈ d.defs) (hx : r.x = "law") (hps : r.ps = (["script"] : List Str))
    (law : ∀ ns : List Int, ns.length ≤ n → (∀ z ∈ ns, Builtin.Int.intBits z ≤ 1048576) → ∃ h', Pz.call kk r.id [.scr (ns.map .int)] [] = .ok (.bl true) h') :
    PySem.W.WalkO q loose XP (He.hookX m d.fa d.fn ts d.tf d.ex).says l.row.toRowW dr [] (fun f vs => PySem.call f vs) := by
  refine LamX.walk_ofTsE (k := 7 * kk) (n := n) (x := "script") (CX := fun w => L2N.CX l.prog w) hn hn2 hdf hr (fun w mg fa h Y G hmg => ?_) (fun w H s e s' ⟨_, _, _, _, _, _, _, _, _, _, _, _, z⟩ => z.elim)
  obtain ⟨K, KX, c⟩ := Y
  refine ⟨K, KX, ?_⟩
  rw [hname] at hmg
  obtain ⟨hlen, hz⟩ := mapO_zip ht
  have hrs : ∀ r' ∈ d.defs, ∃ b, (r', b) ∈ d.rs bs := fun r' hr' => by
    obtain ⟨i, hi, e⟩ := List.mem_iff_getElem.mp hr'
    refine ⟨bs[i]'(by omega), ?_⟩
    have : (d.defs.zip bs)[i]'(by rw [List.length_zip]; omega) = (d.defs[i], bs[i]'(by omega)) := List.getElem_zip
    unfold LD.rs
    rw [← e, ← this]
    exact List.getElem_mem _
  have hfst : (d.rs bs).map (·.1) = d.defs := by
    unfold LD.rs
    rw [List.map_fst_zip (by omega)]
  have hin : ∀ q ∈ d.rs bs, q.1 ∈ d.defs := fun q hq => by
    rw [← hfst]
    exact List.mem_map.mpr ⟨q, hq, rfl⟩
  have hd : ∀ q ∈ d.rs bs, Pz.defs q.1.id = some (q.1.def_ q.2) := fun q hq => by
    obtain ⟨i, hi, e⟩ := List.mem_iff_getElem.mp hq
    have e1 : ((d.rs bs).map (fun q => Pz.defs q.1.id))[i]? = ((d.rs bs).map fun q => some (q.1.def_ q.2))[i]? := by rw [hPz]
    rw [List.getElem?_map, List.getElem?_map, List.getElem?_eq_getElem hi, e] at e1
    exact Option.some.inj e1
  have hwd : Pz.word = d.g.word := by
    rw [hw]
    funext c
    rw [← hws, List.getElem?_map]
    rfl
  have hg : d.g.fs = fsOf (d.rs bs) := by
    unfold fsOf
    show d.defs.map _ = _
    rw [← hfst, List.map_map]
    rfl
  have TBs : ∀ base : Heap, (∀ p ∈ d.tf.map (He.cT K), LamX.TabB base mg p.1 p.2) → ∀ kk, ∃ a fd, FnOk l.prog w K mg base (L2N.CX l.prog w) (7 * kk) a fd r.ps (spOf (d.sta K) r.ps.length (Pz.call kk r.id)) ∧ mg r.x = some (.ref a) ∧ PySem.W.keepIn K (.ref a) = true ∧ Binds K fd r.ps [] ∧ ∃ oc od osl, K.lookup a = some ⟨oc, od, .func fd, osl⟩ := fun base TB kk => by
    obtain ⟨b, hb⟩ := hrs r hm
    exact fn_all (P := l.prog) (w := w) (K := K) (mg := mg) (base := base) (W := d.sta K) (g := d.g) (Pz := Pz) (facts_of T KX G c) hwd hg (fun q hq => hz q hq) hd (fun q hq => by
      obtain ⟨fd, p⟩ := placed_of (base := base) T KX G c TB (hin q hq)
      exact ⟨_, fd, p⟩) kk (r, b) hb
  have hT1 : ∀ p ∈ d.tf.map (He.cT K), h.get? p.2 = some { cls := .none, data := .fields #[] } := fun p hp => by
    obtain ⟨q, hq, rfl⟩ := List.mem_map.mp hp
    exact c.empty q hq
  have hT2 : ∀ p ∈ d.tf.map (He.cT K), K.lookup p.2 = none := fun p hp => by
    obtain ⟨q, hq, rfl⟩ := List.mem_map.mp hp
    exact c.out q hq
  have hT3 : ∀ p ∈ d.tf.map (He.cT K), PySem.W.CodeHd h p.1 p.2 := fun p hp => by
    obtain ⟨q, hq, rfl⟩ := List.mem_map.mp hp
    exact PySem.W.codeHd_of_K KX (c.hd q hq)
  obtain ⟨fd, F, mr⟩ := says_fun KX G c (r := r) (List.mem_append_left _ hm)
  have T1 := List.all_eq_true.mp T.defs r hm
  simp only [Bool.and_eq_true, decide_eq_true_eq] at T1
  have efa : fa = He.ga K r.x := by
    rw [hx] at mr
    rw [mr] at hmg
    cases hmg
    rw [hx]
  have hbind : ∀ (s : Shared) (us : List Value), us.length = r.ps.length → BindsTo s fd ⟨us, []⟩ (r.ps.zip us) := fun s us hl => F.bindsA (fun _ _ _ _ _ _ us hl => plainArgs_bind T1.1 T1.2 hl) s us hl
  refine ⟨fd, d.tf.map (He.cT K), spOf (d.sta K) 1 (Pz.call kk r.id), hT1, hT2, hT3, fun s u => ?_, fun H a ns hl hbits hH hS => ?_, fun base hKb hns TB => ?_⟩
  · have e := hbind s [u] (by rw [hps]; rfl)
    rw [hps] at e
    exact e
  · obtain ⟨h', e⟩ := law ns hl hbits
    let z : Zn := ⟨[], fun b => match H b with
      | some (.frz o x) => some (.frz o x)
      | some (.lst vs) => some (.lst vs)
      | _ => none, fun _ => none⟩
    have zf : ∀ b o, z.fz b = some o → H b = some o ∧ noTbl o = true := fun b o e => by
      have e' : (match H b with
        | some (.frz o x) => some (HO.frz o x)
        | some (.lst vs) => some (HO.lst vs)
        | _ => none) = some o := e
      split at e'
      · cases e'
        exact ⟨by assumption, rfl⟩
      · cases e'
        exact ⟨by assumption, rfl⟩
      · cases e'
    have RH0 : RH (d.sta K) z [] H := by
      refine ⟨fun b o e => (zf b o e).1, fun b o e => (zf b o e).2, rfl, fun i m a e1 _ => (by simp at e1), List.nodup_nil, fun a ha => (by cases ha), fun p hp => ?_, fun a o e => (by cases e)⟩
      obtain ⟨q, hq, rfl⟩ := List.mem_map.mp hp
      exact LamX.TabS.nil (hH _ (List.mem_map.mpr ⟨q, hq, rfl⟩))
    refine ⟨z, [.scr (ns.map .int)], [], ⟨_, [], rfl, ⟨a, ns.map V.int, rfl, ?_, ?_⟩, rfl⟩, RH0, rfl, ?_⟩
    · rcases hS with hS | hS
      · left
        rcases hS with hS | ⟨o, hS⟩
        · left
          show z.fz a = _
          simp only [z, hS]
        · right
          refine ⟨o, ?_⟩
          show z.fz a = _
          simp only [z, hS]
      · exact .inr hS
    · clear hS hbits hl e
      induction ns with
      | nil => exact RVs.nil
      | cons i r ih => exact RVs.cons rfl ih
    · rw [e]
      intro z' H' _ _ v' rv
      exact rv
  · obtain ⟨a, fd', F', m', _, _, oc1, od1, osl1, lk1⟩ := TBs base TB kk
    have ea : a = fa := by
      rw [hx] at m'
      rw [m'] at hmg
      cases hmg
      rfl
    subst ea
    have efd : fd' = fd := by
      obtain ⟨oc2, od2, osl2, lk2⟩ := F.look
      rw [← efa, lk1] at lk2
      cases lk2
      rfl
    subst efd
    rw [hps] at F'
    exact F'
end Z
-- GAll
set_option Elab.async false
set_option linter.all false
set_option maxRecDepth 100000
/-! The defs of all laws (printed by mkall.py). -/
namespace G
open Z
/-- is_integer(value, low, high); 0 value, 1 low, 2 high -/
def b1 : List S :=
  [(.ret (.and [(.isi (.var 0) .int), (.not (.isi (.var 0) .bool)), (.chain .le .le (.var 1) (.var 0) (.var 2))]))]
def D1 : Def := ⟨3, 3, b1, false⟩
/-- is_kind(value); 0 value -/
def b2 : List S :=
  [(.ret (.and [(.isi (.var 0) .str), (.cmp .isin (.var 0) (.cst (.tup [(.str [105, 110, 116]), (.str [116, 101, 120, 116]), (.str [102, 108, 97, 103])])))]))]
def D2 : Def := ⟨1, 1, b2, false⟩
/-- is_text(value); 0 value, 1 sign -/
def b3 : List S :=
  [(.ret (.and [(.isi (.var 0) .str), (.cmp .le (.bi .len [(.var 0)]) (.cst (.int 30))), (.bi .all [(.frz (.comp [1] (.chain .le .le (.cst (.str [32])) (.var 1) (.cst (.str [126]))) (.name 1) (.val (.var 0)) []))])]))]
def D3 : Def := ⟨1, 2, b3, false⟩
/-- is_such(kind, value); 0 kind, 1 value -/
def b4 : List S :=
  [(.ife (.cmp .eq (.var 0) (.cst (.str [105, 110, 116])))
    [(.ret (.call 1 [(.var 1), (.neg (.cst (.int 1000000000))), (.cst (.int 1000000000))]))]
    []),
   (.ret (.ife (.cmp .eq (.var 0) (.cst (.str [116, 101, 120, 116]))) (.call 3 [(.var 1)]) (.isi (.var 1) .bool)))]
def D4 : Def := ⟨2, 2, b4, false⟩
/-- need_kind(value); 0 value -/
def b5 : List S :=
  [(.ife (.not (.call 2 [(.var 0)]))
    [(.raise 1)]
    [])]
def D5 : Def := ⟨1, 1, b5, false⟩
/-- is_value(kind, value); 0 kind, 1 value -/
def b6 : List S :=
  [(.expr (.call 5 [(.var 0)])),
   (.ret (.call 4 [(.var 0), (.var 1)]))]
def D6 : Def := ⟨2, 2, b6, false⟩
/-- kind_of(value); 0 value -/
def b7 : List S :=
  [(.ife (.cmp .is (.var 0) (.cst .non))
    [(.ret (.cst .non))]
    []),
   (.ife (.isi (.var 0) .bool)
    [(.ret (.cst (.str [102, 108, 97, 103])))]
    []),
   (.ret (.ife (.isi (.var 0) .int) (.cst (.str [105, 110, 116])) (.cst (.str [116, 101, 120, 116]))))]
def D7 : Def := ⟨1, 1, b7, false⟩
/-- integer_of(text); 0 text, 1 figures, 2 number, 3 sign -/
def b8 : List S :=
  [(.asg 1 (.ife (.cmp .eq (.slc (.var 0) [] [(.cst (.int 1))]) (.cst (.str [45]))) (.slc (.var 0) [(.cst (.int 1))] []) (.var 0))),
   (.ife (.or [(.cmp .eq (.var 1) (.cst (.str []))), (.cmp .gt (.bi .len [(.var 1)]) (.cst (.int 10))), (.not (.bi .all [(.frz (.comp [3] (.cmp .isin (.var 3) (.cst (.str [48, 49, 50, 51, 52, 53, 54, 55, 56, 57]))) (.name 3) (.val (.var 1)) []))]))])
    [(.ret (.cst .non))]
    []),
   (.asg 2 (.bi .int [(.var 0)])),
   (.ret (.ife (.and [(.cmp .eq (.bi .str [(.var 2)]) (.var 0)), (.call 1 [(.var 2), (.neg (.cst (.int 1000000000))), (.cst (.int 1000000000))])]) (.var 2) (.cst .non)))]
def D8 : Def := ⟨1, 4, b8, false⟩
/-- change_of(value, kind); 0 value, 1 kind, 2 own, 3 number -/
def b9 : List S :=
  [(.asg 2 (.call 7 [(.var 0)])),
   (.ife (.or [(.cmp .is (.var 2) (.cst .non)), (.cmp .eq (.var 2) (.var 1))])
    [(.ret (.tup [(.cst (.bl true)), (.var 0)]))]
    []),
   (.ife (.cmp .eq (.var 2) (.cst (.str [105, 110, 116])))
    [(.ife (.cmp .eq (.var 1) (.cst (.str [116, 101, 120, 116])))
    [(.ret (.tup [(.cst (.bl true)), (.bi .str [(.var 0)])]))]
    []), (.ret (.ife (.cmp .isin (.var 0) (.tup [(.cst (.int 0)), (.cst (.int 1))])) (.tup [(.cst (.bl true)), (.cmp .eq (.var 0) (.cst (.int 1)))]) (.tup [(.cst (.bl false)), (.cst .non)])))]
    []),
   (.ife (.cmp .eq (.var 2) (.cst (.str [102, 108, 97, 103])))
    [(.ife (.cmp .eq (.var 1) (.cst (.str [105, 110, 116])))
    [(.ret (.tup [(.cst (.bl true)), (.bi .int [(.var 0)])]))]
    []), (.ret (.tup [(.cst (.bl true)), (.ife (.var 0) (.cst (.str [116, 114, 117, 101])) (.cst (.str [102, 97, 108, 115, 101])))]))]
    []),
   (.ife (.cmp .eq (.var 1) (.cst (.str [102, 108, 97, 103])))
    [(.ret (.ife (.cmp .isin (.var 0) (.tup [(.cst (.str [102, 97, 108, 115, 101])), (.cst (.str [116, 114, 117, 101]))])) (.tup [(.cst (.bl true)), (.cmp .eq (.var 0) (.cst (.str [116, 114, 117, 101])))]) (.tup [(.cst (.bl false)), (.cst .non)])))]
    []),
   (.asg 3 (.call 8 [(.var 0)])),
   (.ret (.tup [(.cmp .isn (.var 3) (.cst .non)), (.var 3)]))]
def D9 : Def := ⟨2, 4, b9, false⟩
/-- converted(value, kind); 0 value, 1 kind, 2 good, 3 found, 4 one -/
def b10 : List S :=
  [(.ife (.and [(.cmp .isn (.var 0) (.cst .non)), (.not (.bi .any [(.frz (.comp [4] (.call 4 [(.var 4), (.var 0)]) (.name 4) (.val (.cst (.tup [(.str [105, 110, 116]), (.str [116, 101, 120, 116]), (.str [102, 108, 97, 103])]))) []))]))])
    [(.raise 0)]
    []),
   (.expr (.call 5 [(.var 1)])),
   (.asgT (.tup [(.name 2), (.name 3)]) (.call 9 [(.var 0), (.var 1)])),
   (.ife (.not (.var 2))
    [(.raise 2)]
    []),
   (.ret (.var 3))]
def D10 : Def := ⟨2, 5, b10, false⟩
/-- _law_source(script, k); 0 script, 1 k, 2 cell -/
def b11 : List S :=
  [(.asg 2 (.bin .mul (.cst (.int 15485863)) (.var 1))),
   (.ife (.cmp .lt (.var 1) (.bi .len [(.var 0)]))
    [(.asg 2 (.bin .mod (.sub (.var 0) (.var 1)) (.bin .mul (.bin .mul (.bin .mul (.bin .mul (.bin .pow (.cst (.int 10)) (.cst (.int 60))) (.bin .pow (.cst (.int 10)) (.cst (.int 60)))) (.bin .pow (.cst (.int 10)) (.cst (.int 60)))) (.bin .pow (.cst (.int 10)) (.cst (.int 60)))) (.bin .pow (.cst (.int 10)) (.cst (.int 60))))))]
    [(.ife (.cmp .gt (.bi .len [(.var 0)]) (.cst (.int 0)))
    [(.asg 2 (.bin .add (.bin .mod (.sub (.var 0) (.bin .mod (.var 1) (.bi .len [(.var 0)]))) (.bin .pow (.cst (.int 10)) (.cst (.int 15)))) (.bin .mul (.cst (.int 15485863)) (.var 1))))]
    [])]),
   (.ret (.mut (.disp [(.bin .mul (.var 2) (.bi .int [(.cmp .ge (.var 2) (.bin .pow (.cst (.int 10)) (.cst (.int 18))))])), (.bin .add (.cst (.int 1)) (.bin .mod (.bin .add (.bin .mul (.var 2) (.cst (.int 69621))) (.bin .mul (.cst (.int 86028121)) (.bin .add (.var 1) (.cst (.int 1))))) (.cst (.int 2147483646))))])))]
def D11 : Def := ⟨2, 3, b11, true⟩
/-- _law_pick(source, size); 0 source, 1 size, 2 drawn, 3 wide -/
def b12 : List S :=
  [(.ife (.cmp .gt (.sub (.var 0) (.cst (.int 0))) (.cst (.int 0)))
    [(.asg 2 (.bin .mod (.sub (.var 0) (.cst (.int 0))) (.var 1))), (.asgI (.var 0) (.cst (.int 0)) (.bin .fdiv (.sub (.var 0) (.cst (.int 0))) (.var 1))), (.ret (.var 2))]
    []),
   (.asgT (.tup [(.name 2), (.name 3)]) (.tup [(.cst (.int 0)), (.cst (.int 1))])),
   (.whl (.cmp .lt (.var 3) (.var 1))
    [(.asgI (.var 0) (.cst (.int 1)) (.bin .mod (.bin .mul (.sub (.var 0) (.cst (.int 1))) (.cst (.int 69621))) (.cst (.int 2147483647)))), (.asg 2 (.bin .add (.bin .mul (.var 2) (.cst (.int 268435456))) (.bin .fdiv (.bin .mod (.bin .mul (.sub (.var 0) (.cst (.int 1))) (.bin .add (.bin .fdiv (.sub (.var 0) (.cst (.int 1))) (.cst (.int 128))) (.cst (.int 3)))) (.cst (.int 2147483629))) (.cst (.int 8))))), (.asg 3 (.bin .mul (.var 3) (.cst (.int 268435456))))]),
   (.ret (.bin .mod (.var 2) (.var 1)))]
def D12 : Def := ⟨2, 4, b12, false⟩
/-- _law_of(source, values); 0 source, 1 values -/
def b13 : List S :=
  [(.ret (.sub (.var 1) (.call 12 [(.var 0), (.bi .len [(.var 1)])])))]
def D13 : Def := ⟨2, 2, b13, false⟩
/-- _law_values(source, kind); 0 source, 1 kind -/
def b14 : List S :=
  [(.ife (.cmp .eq (.var 1) (.cst (.str [102, 108, 97, 103])))
    [(.ret (.cmp .eq (.call 12 [(.var 0), (.cst (.int 2))]) (.cst (.int 0))))]
    []),
   (.ife (.cmp .eq (.var 1) (.cst (.str [105, 110, 116])))
    [(.ret (.call 13 [(.var 0), (.frz (.disp [(.cst (.int 0)), (.cst (.int 1)), (.cst (.int 2)), (.cst (.int 7)), (.neg (.cst (.int 3))), (.bin .pow (.cst (.int 10)) (.cst (.int 9))), (.call 12 [(.var 0), (.cst (.int 100))])]))]))]
    []),
   (.ret (.call 13 [(.var 0), (.frz (.disp [(.cst (.str [48])), (.cst (.str [49])), (.cst (.str [50])), (.cst (.str [55])), (.cst (.str [45, 51])), (.cst (.str [48, 55])), (.cst (.str [])), (.cst (.str [116, 114, 117, 101])), (.cst (.str [102, 97, 108, 115, 101])), (.cst (.str [114, 101, 120])), (.cst (.str [116, 111, 109])), (.cst (.str [45, 48])), (.bi .str [(.call 12 [(.var 0), (.cst (.int 100))])])]))]))]
def D14 : Def := ⟨2, 2, b14, false⟩
/-- _law_kind(source); 0 source -/
def b15 : List S :=
  [(.ret (.call 13 [(.var 0), (.frz (.disp [(.cst (.str [105, 110, 116])), (.cst (.str [116, 101, 120, 116])), (.cst (.str [102, 108, 97, 103]))]))]))]
def D15 : Def := ⟨1, 1, b15, false⟩
/-- _law_any_value(source, deep); 0 source, 1 deep, 2 way, 3 items, 4 some, 5 turn -/
def b16 : List S :=
  [(.asg 2 (.call 12 [(.var 0), (.cst (.int 9))])),
   (.ife (.or [(.cmp .lt (.var 2) (.cst (.int 6))), (.cmp .eq (.var 1) (.cst (.int 0)))])
    [(.asg 4 (.frz (.disp [(.cst (.int 0)), (.cst (.int 1)), (.neg (.cst (.int 1))), (.bin .pow (.cst (.int 10)) (.cst (.int 9))), (.cst (.bl true)), (.cst (.bl false)), (.cst .non), (.cst (.str [])), (.cst (.str [97])), (.cst (.str [112, 101, 116, 115])), (.cst (.str [105, 110, 116])), (.cst (.str [116, 101, 120, 116])), (.cst (.str [102, 108, 97, 103])), (.cst (.str [55])), (.cst (.str [48, 55])), (.cst (.str [116, 114, 117, 101])), (.cst (.str [65])), (.tup []), (.frz (.disp []))]))), (.ret (.call 13 [(.var 0), (.bin .add (.var 4) (.frz (.disp [(.cst (.str [97, 100, 100])), (.cst (.str [100, 114, 111, 112])), (.tup [(.cst (.str [97]))]), (.bin .pow (.cst (.int 10)) (.cst (.int 39))), (.cst (.str [97, 98, 99, 100, 101, 102, 103, 104, 105]))])))]))]
    []),
   (.asg 3 (.frz (.comp [5] (.call 16 [(.var 0), (.bin .sub (.var 1) (.cst (.int 1)))]) (.name 5) (.rng (.cst (.int 0)) (.call 12 [(.var 0), (.cst (.int 4))])) []))),
   (.ret (.sub (.frz (.disp [(.var 3), (.bi .tuple [(.var 3)]), (.bi .tuple [(.var 3)])])) (.bin .sub (.var 2) (.cst (.int 6)))))]
def D16 : Def := ⟨2, 6, b16, false⟩
/-- _law_is_integer(value, low, high); 0 value, 1 low, 2 high -/
def b17 : List S :=
  [(.ret (.and [(.isi (.var 0) .int), (.not (.isi (.var 0) .bool)), (.chain .le .le (.var 1) (.var 0) (.var 2))]))]
def D17 : Def := ⟨3, 3, b17, false⟩
/-- _law_is_such(kind, value); 0 kind, 1 value, 2 sign -/
def b18 : List S :=
  [(.ife (.cmp .eq (.var 0) (.cst (.str [105, 110, 116])))
    [(.ret (.call 17 [(.var 1), (.neg (.bin .pow (.cst (.int 10)) (.cst (.int 9)))), (.bin .pow (.cst (.int 10)) (.cst (.int 9)))]))]
    []),
   (.ife (.cmp .eq (.var 0) (.cst (.str [102, 108, 97, 103])))
    [(.ret (.isi (.var 1) .bool))]
    []),
   (.ret (.and [(.isi (.var 1) .str), (.cmp .le (.bi .len [(.var 1)]) (.cst (.int 30))), (.cmp .eq (.frz (.comp [2] (.cst (.int 1)) (.name 2) (.val (.var 1)) [(.not (.chain .le .le (.cst (.str [32])) (.var 2) (.cst (.str [126]))))])) (.frz (.disp [])))]))]
def D18 : Def := ⟨2, 3, b18, false⟩
/-- _law_same(actual, expected); 0 actual, 1 expected -/
def b19 : List S :=
  [(.ret (.and [(.isi (.var 0) .bool), (.cmp .eq (.var 0) (.var 1))]))]
def D19 : Def := ⟨2, 2, b19, false⟩
/-- _law_sort(value); 0 value -/
def b20 : List S :=
  [(.ife (.cmp .is (.var 0) (.cst .non))
    [(.ret (.cst (.str [103, 97, 112])))]
    []),
   (.ret (.ife (.isi (.var 0) .bool) (.cst (.str [102, 108, 97, 103])) (.ife (.isi (.var 0) .int) (.cst (.str [105, 110, 116])) (.cst (.str [116, 101, 120, 116])))))]
def D20 : Def := ⟨1, 1, b20, false⟩
/-- _law_text_of(value); 0 value -/
def b21 : List S :=
  [(.ret (.ife (.isi (.var 0) .bool) (.meth (.frz (.ddisp [.str [70, 97, 108, 115, 101], .str [84, 114, 117, 101]] [(.cst (.str [102, 97, 108, 115, 101])), (.cst (.str [116, 114, 117, 101]))])) 7 [(.bi .str [(.var 0)]), (.bi .str [(.var 0)])]) (.bi .str [(.var 0)])))]
def D21 : Def := ⟨1, 1, b21, false⟩
/-- _law_convert(value, kind); 0 value, 1 kind, 2 sort, 3 text, 4 plain, 5 number, 6 pairs, 7 sign -/
def b22 : List S :=
  [(.asg 2 (.call 20 [(.var 0)])),
   (.ife (.cmp .isin (.var 2) (.tup [(.cst (.str [103, 97, 112])), (.var 1)]))
    [(.ret (.tup [(.var 0)]))]
    []),
   (.ife (.cmp .eq (.var 1) (.cst (.str [116, 101, 120, 116])))
    [(.ret (.tup [(.call 21 [(.var 0)])]))]
    []),
   (.asg 3 (.call 21 [(.var 0)])),
   (.ife (.cmp .eq (.var 1) (.cst (.str [102, 108, 97, 103])))
    [(.asg 6 (.ife (.cmp .eq (.var 2) (.cst (.str [105, 110, 116]))) (.frz (.ddisp [.str [48], .str [49]] [(.cst (.bl false)), (.cst (.bl true))])) (.frz (.ddisp [.str [102, 97, 108, 115, 101], .str [116, 114, 117, 101]] [(.cst (.bl false)), (.cst (.bl true))])))), (.ret (.ife (.cmp .isin (.var 3) (.var 6)) (.tup [(.sub (.var 6) (.var 3))]) (.cst .non)))]
    []),
   (.ife (.cmp .eq (.var 2) (.cst (.str [102, 108, 97, 103])))
    [(.ret (.tup [(.sub (.frz (.ddisp [.str [102, 97, 108, 115, 101], .str [116, 114, 117, 101]] [(.cst (.int 0)), (.cst (.int 1))])) (.var 3))]))]
    []),
   (.asg 4 (.ife (.cmp .eq (.slc (.var 3) [] [(.cst (.int 1))]) (.cst (.str [45]))) (.slc (.var 3) [(.cst (.int 1))] []) (.var 3))),
   (.ife (.or [(.cmp .eq (.var 4) (.cst (.str []))), (.cmp .gt (.bi .len [(.var 4)]) (.cst (.int 10))), (.cmp .ne (.frz (.comp [7] (.var 7) (.name 7) (.val (.var 4)) [(.cmp .nin (.var 7) (.cst (.str [48, 49, 50, 51, 52, 53, 54, 55, 56, 57])))])) (.frz (.disp [])))])
    [(.ret (.cst .non))]
    []),
   (.asg 5 (.bi .int [(.var 3)])),
   (.ret (.ife (.and [(.cmp .eq (.bi .str [(.var 5)]) (.var 3)), (.chain .le .le (.neg (.bin .pow (.cst (.int 10)) (.cst (.int 9)))) (.var 5) (.bin .pow (.cst (.int 10)) (.cst (.int 9))))]) (.tup [(.var 5)]) (.cst .non)))]
def D22 : Def := ⟨2, 8, b22, false⟩
/-- law(script); 0 script, 1 k, 2 source, 3 some, 4 value, 5 sorts, 6 kind, 7 odd, 8 due, 9 found, 10 later, 11 turn -/
def b23 : List S :=
  [(.for (.name 1) (.rng (.cst (.int 0)) (.bi .max [(.cst (.int 1)), (.bi .min [(.cst (.int 8)), (.bi .len [(.var 0)])])]))
    [(.asg 2 (.call 11 [(.var 0), (.var 1)])), (.asg 3 (.frz (.disp [(.cst (.int 0)), (.cst (.int 1)), (.cst (.int 2)), (.neg (.cst (.int 1))), (.bin .pow (.cst (.int 10)) (.cst (.int 9))), (.bin .add (.bin .pow (.cst (.int 10)) (.cst (.int 9))) (.cst (.int 1))), (.bin .sub (.neg (.bin .pow (.cst (.int 10)) (.cst (.int 9)))) (.cst (.int 1))), (.cst (.str [48])), (.cst (.str [49])), (.cst (.str [48, 49])), (.cst (.str [45, 48])), (.cst (.str [45, 55])), (.cst (.str [43, 55])), (.cst (.str [32, 55])), (.cst (.str [55, 32])), (.cst (.str [49, 48, 48, 48, 48, 48, 48, 48, 48, 49]))]))), (.asg 3 (.bin .add (.var 3) (.frz (.disp [(.cst (.str [116, 114, 117, 101])), (.cst (.str [102, 97, 108, 115, 101])), (.cst (.str [84, 114, 117, 101])), (.cst (.str [])), (.bin .mul (.cst (.str [97])) (.cst (.int 30))), (.bin .mul (.cst (.str [97])) (.cst (.int 31))), (.bin .mul (.cst (.str [49])) (.cst (.int 30))), (.cst (.str [45, 49, 48, 48, 48, 48, 48, 48, 48, 48, 48])), (.cst (.str [45])), (.cst (.str [45, 45, 49])), (.cst (.bl true)), (.cst (.bl false)), (.cst .non)])))), (.asg 3 (.bin .add (.bin .add (.var 3) (.frz (.comp [11] (.call 14 [(.var 2), (.call 15 [(.var 2)])]) (.name 11) (.rng (.cst (.int 0)) (.cst (.int 4))) []))) (.frz (.disp [(.cst (.int 1000)), (.tup [(.cst (.int 1))]), (.frz (.disp [(.cst (.int 1))])), (.cst (.str [126, 32, 33])), (.cst (.str [49, 46, 48]))])))), (.for (.name 4) (.val (.bin .add (.var 3) (.frz (.disp [(.call 16 [(.var 2), (.cst (.int 2))])]))))
    [(.asg 5 (.frz (.comp [6] (.var 6) (.name 6) (.val (.frz (.disp [(.cst (.str [105, 110, 116])), (.cst (.str [116, 101, 120, 116])), (.cst (.str [102, 108, 97, 103]))]))) [(.call 18 [(.var 6), (.var 4)])]))), (.for (.name 6) (.val (.frz (.disp [(.cst (.str [105, 110, 116])), (.cst (.str [116, 101, 120, 116])), (.cst (.str [102, 108, 97, 103]))])))
    [(.ife (.not (.call 19 [(.call 6 [(.var 6), (.var 4)]), (.cmp .isin (.var 6) (.var 5))]))
    [(.ret (.cst (.bl false)))]
    []), (.asg 8 (.tup [(.cst (.str [101, 114, 114, 111, 114])), (.cst (.str [118, 97, 108, 117, 101, 32, 98, 97, 115, 101])), (.cst .non)])), (.ife (.or [(.cmp .is (.var 4) (.cst .non)), (.cmp .ne (.var 5) (.frz (.disp [])))])
    [(.asg 10 (.call 22 [(.var 4), (.var 6)])), (.asg 8 (.ife (.cmp .is (.var 10) (.cst .non)) (.tup [(.cst (.str [101, 114, 114, 111, 114])), (.cst (.str [99, 111, 110, 118, 101, 114, 116, 32, 98, 97, 115, 101])), (.cst .non)]) (.tup [(.cst (.str [118, 97, 108, 117, 101])), (.sub (.var 10) (.cst (.int 0)))])))]
    []), (.asg 9 (.lam (.call 10 [(.var 4), (.var 6)]))), (.ife (.or [(.cmp .ne (.var 9) (.var 8)), (.and [(.cmp .eq (.sub (.var 9) (.cst (.int 0))) (.cst (.str [118, 97, 108, 117, 101]))), (.cmp .ne (.call 20 [(.sub (.var 9) (.cst (.int 1)))]) (.call 20 [(.sub (.var 8) (.cst (.int 1)))]))])])
    [(.ret (.cst (.bl false)))]
    []), (.ife (.and [(.cmp .eq (.sub (.var 9) (.cst (.int 0))) (.cst (.str [118, 97, 108, 117, 101]))), (.cmp .ne (.var 5) (.frz (.disp []))), (.cmp .ne (.call 10 [(.sub (.var 9) (.cst (.int 1))), (.sub (.var 5) (.cst (.int 0)))]) (.var 4))])
    [(.ret (.cst (.bl false)))]
    [])]), (.for (.name 7) (.val (.frz (.disp [(.cst .non), (.cst (.str [])), (.cst (.str [105, 110, 116, 101, 103, 101, 114])), (.cst (.int 1)), (.tup [(.cst (.str [105, 110, 116]))]), (.cst (.str [73, 110, 116]))])))
    [(.ife (.not (.lamR (.call 6 [(.var 7), (.var 4)]) (.cst (.str [107, 105, 110, 100]))))
    [(.ret (.cst (.bl false)))]
    []), (.ife (.not (.lamR (.call 10 [(.var 4), (.var 7)]) (.ife (.or [(.cmp .is (.var 4) (.cst .non)), (.cmp .ne (.var 5) (.frz (.disp [])))]) (.cst (.str [107, 105, 110, 100])) (.cst (.str [118, 97, 108, 117, 101])))))
    [(.ret (.cst (.bl false)))]
    [])])])]),
   (.ret (.and [(.cmp .eq (.call 10 [(.cst (.str [45, 55])), (.cst (.str [105, 110, 116]))]) (.neg (.cst (.int 7)))), (.cmp .is (.call 10 [(.cst (.int 1)), (.cst (.str [102, 108, 97, 103]))]) (.cst (.bl true))), (.cmp .eq (.call 10 [(.cst (.bl false)), (.cst (.str [105, 110, 116]))]) (.cst (.int 0)))]))]
def D23 : Def := ⟨1, 12, b23, false⟩
/-- key_of(value); 0 value -/
def b24 : List S :=
  [(.ret (.tup [(.bi .str [(.call 7 [(.var 0)])]), (.var 0)]))]
def D24 : Def := ⟨1, 1, b24, false⟩
/-- is_name(value); 0 value, 1 sign -/
def b25 : List S :=
  [(.ret (.and [(.isi (.var 0) .str), (.chain .le .le (.cst (.int 1)) (.bi .len [(.var 0)]) (.cst (.int 8))), (.bi .all [(.frz (.comp [1] (.cmp .isin (.var 1) (.cst (.str [97, 98, 99, 100, 101, 102, 103, 104, 105, 106, 107, 108, 109, 110, 111, 112, 113, 114, 115, 116, 117, 118, 119, 120, 121, 122]))) (.name 1) (.val (.var 0)) []))])]))]
def D25 : Def := ⟨1, 2, b25, false⟩
/-- is_column(value); 0 value -/
def b26 : List S :=
  [(.ife (.or [(.not (.isi (.var 0) .tup)), (.cmp .ne (.bi .len [(.var 0)]) (.cst (.int 4))), (.not (.call 25 [(.sub (.var 0) (.cst (.int 0)))])), (.not (.call 2 [(.sub (.var 0) (.cst (.int 1)))]))])
    [(.ret (.cst (.bl false)))]
    []),
   (.ret (.and [(.isi (.sub (.var 0) (.cst (.int 2))) .bool), (.isi (.sub (.var 0) (.cst (.int 3))) .bool)]))]
def D26 : Def := ⟨1, 1, b26, false⟩
/-- rise(names); 0 names, 1 one, 2 other -/
def b27 : List S :=
  [(.ret (.bi .all [(.frz (.comp [1, 2] (.cmp .lt (.var 1) (.var 2)) (.tup [(.name 1), (.name 2)]) (.zip [(.var 0), (.slc (.var 0) [(.cst (.int 1))] [])]) []))]))]
def D27 : Def := ⟨1, 3, b27, false⟩
/-- are_columns(value); 0 value, 1 column, 2 one -/
def b28 : List S :=
  [(.ife (.or [(.not (.isi (.var 0) .tup)), (.cmp .gt (.bi .len [(.var 0)]) (.cst (.int 8))), (.not (.bi .all [(.frz (.comp [2] (.call 26 [(.var 2)]) (.name 2) (.val (.var 0)) []))]))])
    [(.ret (.cst (.bl false)))]
    []),
   (.ret (.call 27 [(.frz (.comp [1] (.sub (.var 1) (.cst (.int 0))) (.name 1) (.val (.var 0)) []))]))]
def D28 : Def := ⟨1, 3, b28, false⟩
/-- is_table(value); 0 value -/
def b29 : List S :=
  [(.ret (.and [(.isi (.var 0) .tup), (.cmp .eq (.bi .len [(.var 0)]) (.cst (.int 2))), (.call 25 [(.sub (.var 0) (.cst (.int 0)))]), (.call 28 [(.sub (.var 0) (.cst (.int 1)))])]))]
def D29 : Def := ⟨1, 1, b29, false⟩
/-- is_schema(value); 0 value, 1 table, 2 one -/
def b30 : List S :=
  [(.ife (.or [(.not (.isi (.var 0) .tup)), (.cmp .gt (.bi .len [(.var 0)]) (.cst (.int 6))), (.not (.bi .all [(.frz (.comp [2] (.call 29 [(.var 2)]) (.name 2) (.val (.var 0)) []))]))])
    [(.ret (.cst (.bl false)))]
    []),
   (.ret (.call 27 [(.frz (.comp [1] (.sub (.var 1) (.cst (.int 0))) (.name 1) (.val (.var 0)) []))]))]
def D30 : Def := ⟨1, 3, b30, false⟩
/-- need_schema(value); 0 value -/
def b31 : List S :=
  [(.ife (.not (.call 30 [(.var 0)]))
    [(.raise 3)]
    [])]
def D31 : Def := ⟨1, 1, b31, false⟩
/-- cell_fits(column, value); 0 column, 1 value -/
def b32 : List S :=
  [(.ret (.ife (.cmp .is (.var 1) (.cst .non)) (.not (.sub (.var 0) (.cst (.int 2)))) (.call 4 [(.sub (.var 0) (.cst (.int 1))), (.var 1)])))]
def D32 : Def := ⟨2, 2, b32, false⟩
/-- are_rows(columns, value); 0 columns, 1 value, 2 row, 3 at, 4 column, 5 cell -/
def b34 : List S :=
  [(.ife (.or [(.not (.isi (.var 1) .tup)), (.cmp .gt (.bi .len [(.var 1)]) (.cst (.int 30)))])
    [(.ret (.cst (.bl false)))]
    []),
   (.for (.name 2) (.val (.var 1))
    [(.ife (.or [(.not (.isi (.var 2) .tup)), (.cmp .ne (.bi .len [(.var 2)]) (.bi .len [(.var 0)]))])
    [(.ret (.cst (.bl false)))]
    []), (.ife (.not (.bi .all [(.frz (.comp [4, 5] (.call 32 [(.var 4), (.var 5)]) (.tup [(.name 4), (.name 5)]) (.zip [(.var 0), (.var 2)]) []))]))
    [(.ret (.cst (.bl false)))]
    [])]),
   (.for (.tup [(.name 3), (.name 4)]) (.enum (.var 0))
    [(.ife (.and [(.sub (.var 4) (.cst (.int 3))), (.call 33 [(.frz (.comp [2] (.sub (.var 2) (.var 3)) (.name 2) (.val (.var 1)) []))])])
    [(.ret (.cst (.bl false)))]
    [])]),
   (.ret (.cst (.bl true)))]
def D34 : Def := ⟨2, 6, b34, false⟩
/-- is_such_data(schema, value); 0 schema, 1 value, 2 table, 3 rows -/
def b35 : List S :=
  [(.ife (.or [(.not (.isi (.var 1) .tup)), (.cmp .ne (.bi .len [(.var 1)]) (.bi .len [(.var 0)]))])
    [(.ret (.cst (.bl false)))]
    []),
   (.ret (.bi .all [(.frz (.comp [2, 3] (.call 34 [(.sub (.var 2) (.cst (.int 1))), (.var 3)]) (.tup [(.name 2), (.name 3)]) (.zip [(.var 0), (.var 1)]) []))]))]
def D35 : Def := ⟨2, 4, b35, false⟩
/-- is_data(schema, value); 0 schema, 1 value -/
def b36 : List S :=
  [(.expr (.call 31 [(.var 0)])),
   (.ret (.call 35 [(.var 0), (.var 1)]))]
def D36 : Def := ⟨2, 2, b36, false⟩
/-- _law_columns(source, most); 0 source, 1 most, 2 names, 3 name -/
def b37 : List S :=
  [(.asg 2 (.slc (.frz (.disp [(.cst (.str [97])), (.cst (.str [97, 103, 101])), (.cst (.str [98])), (.cst (.str [110, 97, 109, 101])), (.cst (.str [122, 101, 116, 97]))])) [] [(.call 12 [(.var 0), (.bin .add (.var 1) (.cst (.int 1)))])])),
   (.ret (.bi .tuple [(.frz (.comp [3] (.tup [(.var 3), (.call 15 [(.var 0)]), (.cmp .eq (.call 12 [(.var 0), (.cst (.int 3))]) (.cst (.int 0))), (.cmp .eq (.call 12 [(.var 0), (.cst (.int 4))]) (.cst (.int 0)))]) (.name 3) (.val (.var 2)) []))]))]
def D37 : Def := ⟨2, 4, b37, false⟩
/-- _law_schema(source, most, wide); 0 source, 1 most, 2 wide, 3 names, 4 name -/
def b38 : List S :=
  [(.asg 3 (.slc (.frz (.disp [(.cst (.str [99, 97, 116, 115])), (.cst (.str [100, 111, 103, 115])), (.cst (.str [112, 101, 116, 115]))])) [] [(.bin .add (.call 12 [(.var 0), (.var 1)]) (.cst (.int 1)))])),
   (.ret (.bi .tuple [(.frz (.comp [4] (.tup [(.var 4), (.call 37 [(.var 0), (.var 2)])]) (.name 4) (.val (.var 3)) []))]))]
def D38 : Def := ⟨3, 5, b38, false⟩
/-- _law_cell(source, column); 0 source, 1 column -/
def b39 : List S :=
  [(.ife (.and [(.not (.sub (.var 1) (.cst (.int 2)))), (.cmp .eq (.call 12 [(.var 0), (.cst (.int 4))]) (.cst (.int 0)))])
    [(.ret (.cst .non))]
    []),
   (.ret (.call 14 [(.var 0), (.sub (.var 1) (.cst (.int 1)))]))]
def D39 : Def := ⟨2, 2, b39, false⟩
/-- _law_key(value); 0 value -/
def b40 : List S :=
  [(.ret (.tup [(.call 20 [(.var 0)]), (.bi .str [(.var 0)])]))]
def D40 : Def := ⟨1, 1, b40, false⟩
/-- _law_rows(source, columns, most); 0 source, 1 columns, 2 most, 3 found, 4 turn, 5 row, 6 clash, 7 at, 8 column, 9 other -/
def b41 : List S :=
  [(.asg 3 (.mut (.disp []))),
   (.for (.name 4) (.rng (.cst (.int 0)) (.call 12 [(.var 0), (.bin .add (.var 2) (.cst (.int 1)))]))
    [(.asg 5 (.bi .tuple [(.frz (.comp [8] (.call 39 [(.var 0), (.var 8)]) (.name 8) (.val (.var 1)) []))])), (.asg 6 (.frz (.disp []))), (.for (.tup [(.name 7), (.name 8)]) (.enum (.var 1))
    [(.ife (.and [(.sub (.var 8) (.cst (.int 3))), (.cmp .isn (.sub (.var 5) (.var 7)) (.cst .non))])
    [(.asg 6 (.bin .add (.var 6) (.frz (.comp [9] (.cst (.int 1)) (.name 9) (.val (.var 3)) [(.cmp .eq (.call 40 [(.sub (.var 9) (.var 7))]) (.call 40 [(.sub (.var 5) (.var 7))]))]))))]
    [])]), (.ife (.cmp .eq (.var 6) (.frz (.disp [])))
    [(.expr (.meth (.var 3) 1 [(.var 5)]))]
    [])]),
   (.ret (.bi .tuple [(.var 3)]))]
def D41 : Def := ⟨3, 10, b41, false⟩
/-- _law_data(source, schema, most); 0 source, 1 schema, 2 most, 3 name, 4 columns -/
def b42 : List S :=
  [(.ret (.bi .tuple [(.frz (.comp [3, 4] (.call 41 [(.var 0), (.var 4), (.var 2)]) (.tup [(.name 3), (.name 4)]) (.val (.var 1)) []))]))]
def D42 : Def := ⟨3, 5, b42, false⟩
/-- _law_is_name(value); 0 value, 1 sign -/
def b44 : List S :=
  [(.ret (.and [(.isi (.var 0) .str), (.chain .le .le (.cst (.int 1)) (.bi .len [(.var 0)]) (.cst (.int 8))), (.cmp .eq (.frz (.comp [1] (.cst (.int 1)) (.name 1) (.val (.var 0)) [(.not (.chain .le .le (.cst (.str [97])) (.var 1) (.cst (.str [122]))))])) (.frz (.disp [])))]))]
def D44 : Def := ⟨1, 2, b44, false⟩
/-- _law_is_kind(value); 0 value -/
def b45 : List S :=
  [(.ret (.and [(.isi (.var 0) .str), (.cmp .isin (.var 0) (.frz (.disp [(.cst (.str [105, 110, 116])), (.cst (.str [116, 101, 120, 116])), (.cst (.str [102, 108, 97, 103]))])))]))]
def D45 : Def := ⟨1, 1, b45, false⟩
/-- _law_are_columns(value); 0 value, 1 last, 2 one -/
def b46 : List S :=
  [(.ife (.or [(.not (.isi (.var 0) .tup)), (.cmp .gt (.bi .len [(.var 0)]) (.cst (.int 8)))])
    [(.ret (.cst (.bl false)))]
    []),
   (.asg 1 (.cst (.str []))),
   (.for (.name 2) (.val (.var 0))
    [(.ife (.or [(.not (.isi (.var 2) .tup)), (.cmp .ne (.bi .len [(.var 2)]) (.cst (.int 4))), (.not (.call 44 [(.sub (.var 2) (.cst (.int 0)))])), (.not (.cmp .gt (.sub (.var 2) (.cst (.int 0))) (.var 1)))])
    [(.ret (.cst (.bl false)))]
    []), (.ife (.or [(.not (.call 45 [(.sub (.var 2) (.cst (.int 1)))])), (.not (.isi (.sub (.var 2) (.cst (.int 2))) .bool)), (.not (.isi (.sub (.var 2) (.cst (.int 3))) .bool))])
    [(.ret (.cst (.bl false)))]
    []), (.asg 1 (.sub (.var 2) (.cst (.int 0))))]),
   (.ret (.cst (.bl true)))]
def D46 : Def := ⟨1, 3, b46, false⟩
/-- _law_is_schema(value); 0 value, 1 last, 2 one -/
def b47 : List S :=
  [(.ife (.or [(.not (.isi (.var 0) .tup)), (.cmp .gt (.bi .len [(.var 0)]) (.cst (.int 6)))])
    [(.ret (.cst (.bl false)))]
    []),
   (.asg 1 (.cst (.str []))),
   (.for (.name 2) (.val (.var 0))
    [(.ife (.or [(.not (.isi (.var 2) .tup)), (.cmp .ne (.bi .len [(.var 2)]) (.cst (.int 2))), (.not (.call 44 [(.sub (.var 2) (.cst (.int 0)))])), (.not (.cmp .gt (.sub (.var 2) (.cst (.int 0))) (.var 1)))])
    [(.ret (.cst (.bl false)))]
    []), (.ife (.not (.call 46 [(.sub (.var 2) (.cst (.int 1)))]))
    [(.ret (.cst (.bl false)))]
    []), (.asg 1 (.sub (.var 2) (.cst (.int 0))))]),
   (.ret (.cst (.bl true)))]
def D47 : Def := ⟨1, 3, b47, false⟩
/-- _law_are_rows(columns, value); 0 columns, 1 value, 2 row, 3 at, 4 column, 5 cell -/
def b49 : List S :=
  [(.ife (.or [(.not (.isi (.var 1) .tup)), (.cmp .gt (.bi .len [(.var 1)]) (.cst (.int 30)))])
    [(.ret (.cst (.bl false)))]
    []),
   (.for (.name 2) (.val (.var 1))
    [(.ife (.or [(.not (.isi (.var 2) .tup)), (.cmp .ne (.bi .len [(.var 2)]) (.bi .len [(.var 0)]))])
    [(.ret (.cst (.bl false)))]
    []), (.for (.tup [(.name 4), (.name 5)]) (.zip [(.var 0), (.var 2)])
    [(.ife (.or [(.and [(.cmp .is (.var 5) (.cst .non)), (.sub (.var 4) (.cst (.int 2)))]), (.and [(.cmp .isn (.var 5) (.cst .non)), (.not (.call 18 [(.sub (.var 4) (.cst (.int 1))), (.var 5)]))])])
    [(.ret (.cst (.bl false)))]
    [])])]),
   (.for (.tup [(.name 3), (.name 4)]) (.enum (.var 0))
    [(.ife (.not (.call 48 [(.frz (.disp [(.sub (.var 4) (.cst (.int 1))), (.cst (.bl false)), (.sub (.var 4) (.cst (.int 3))), (.frz (.comp [2] (.sub (.var 2) (.var 3)) (.name 2) (.val (.var 1)) []))]))]))
    [(.ret (.cst (.bl false)))]
    [])]),
   (.ret (.cst (.bl true)))]
def D49 : Def := ⟨2, 6, b49, false⟩
/-- _law_is_data(schema, value); 0 schema, 1 value, 2 table, 3 rows -/
def b50 : List S :=
  [(.ife (.or [(.not (.isi (.var 1) .tup)), (.cmp .ne (.bi .len [(.var 1)]) (.bi .len [(.var 0)]))])
    [(.ret (.cst (.bl false)))]
    []),
   (.ret (.cmp .eq (.frz (.comp [2, 3] (.cst (.int 1)) (.tup [(.name 2), (.name 3)]) (.zip [(.var 0), (.var 1)]) [(.not (.call 49 [(.sub (.var 2) (.cst (.int 1))), (.var 3)]))])) (.frz (.disp []))))]
def D50 : Def := ⟨2, 4, b50, false⟩
/-- place_of(rows, name); 0 rows, 1 name, 2 place, 3 row -/
def b52 : List S :=
  [(.for (.tup [(.name 2), (.name 3)]) (.enum (.var 0))
    [(.ife (.cmp .eq (.sub (.var 3) (.cst (.int 0))) (.var 1))
    [(.ret (.var 2))]
    [])]),
   (.ret (.cst .non))]
def D52 : Def := ⟨2, 4, b52, false⟩
/-- is_cell(kind, value); 0 kind, 1 value -/
def b54 : List S :=
  [(.ret (.or [(.cmp .is (.var 1) (.cst .non)), (.call 4 [(.var 0), (.var 1)])]))]
def D54 : Def := ⟨2, 2, b54, false⟩
/-- new_column(columns, step); 0 columns, 1 step, 2 place, 3 good -/
def b55 : List S :=
  [(.ife (.cmp .eq (.sub (.var 1) (.cst (.int 0))) (.cst (.str [97, 100, 100])))
    [(.asg 3 (.and [(.call 25 [(.sub (.var 1) (.cst (.int 2)))]), (.call 2 [(.sub (.var 1) (.cst (.int 3)))]), (.call 54 [(.sub (.var 1) (.cst (.int 3))), (.sub (.var 1) (.cst (.int 4)))])])), (.ret (.ife (.and [(.var 3), (.cmp .is (.call 52 [(.var 0), (.sub (.var 1) (.cst (.int 2)))]) (.cst .non))]) (.tup [(.sub (.var 1) (.cst (.int 2))), (.sub (.var 1) (.cst (.int 3))), (.cst (.bl false)), (.cst (.bl false))]) (.cst .non)))]
    []),
   (.asg 2 (.call 52 [(.var 0), (.sub (.var 1) (.cst (.int 2)))])),
   (.ife (.or [(.cmp .is (.var 2) (.cst .non)), (.not (.call 25 [(.sub (.var 1) (.cst (.int 3)))])), (.cmp .isn (.call 52 [(.var 0), (.sub (.var 1) (.cst (.int 3)))]) (.cst .non))])
    [(.ret (.cst .non))]
    []),
   (.ret (.tup [(.sub (.var 1) (.cst (.int 3))), (.sub (.sub (.var 0) (.var 2)) (.cst (.int 1))), (.sub (.sub (.var 0) (.var 2)) (.cst (.int 2))), (.cst (.bl false))]))]
def D55 : Def := ⟨2, 4, b55, false⟩
/-- columns_after(columns, step); 0 columns, 1 step, 2 place, 3 rest, 4 later, 5 more, 6 good -/
def b57 : List S :=
  [(.ife (.cmp .isin (.sub (.var 1) (.cst (.int 0))) (.tup [(.cst (.str [97, 100, 100])), (.cst (.str [99, 111, 112, 121]))]))
    [(.asg 5 (.call 55 [(.var 0), (.var 1)])), (.ret (.ife (.cmp .is (.var 5) (.cst .non)) (.cst .non) (.call 53 [(.bin .add (.var 0) (.tup [(.var 5)]))])))]
    []),
   (.asg 2 (.call 52 [(.var 0), (.sub (.var 1) (.cst (.int 2)))])),
   (.ife (.cmp .is (.var 2) (.cst .non))
    [(.ret (.cst .non))]
    []),
   (.asg 3 (.bin .add (.slc (.var 0) [] [(.var 2)]) (.slc (.var 0) [(.bin .add (.var 2) (.cst (.int 1)))] []))),
   (.ife (.cmp .eq (.sub (.var 1) (.cst (.int 0))) (.cst (.str [114, 101, 109, 111, 118, 101])))
    [(.ret (.var 3))]
    []),
   (.ife (.cmp .eq (.sub (.var 1) (.cst (.int 0))) (.cst (.str [114, 101, 108, 97, 98, 101, 108])))
    [(.asg 6 (.and [(.call 25 [(.sub (.var 1) (.cst (.int 3)))]), (.cmp .is (.call 52 [(.var 0), (.sub (.var 1) (.cst (.int 3)))]) (.cst .non))])), (.ret (.ife (.var 6) (.call 53 [(.bin .add (.var 3) (.tup [(.bin .add (.tup [(.sub (.var 1) (.cst (.int 3)))]) (.slc (.sub (.var 0) (.var 2)) [(.cst (.int 1))] []))]))]) (.cst .non)))]
    []),
   (.asg 4 (.call 56 [(.sub (.var 0) (.var 2)), (.var 1)])),
   (.ret (.ife (.cmp .is (.var 4) (.cst .non)) (.cst .non) (.call 53 [(.bin .add (.var 3) (.tup [(.var 4)]))])))]
def D57 : Def := ⟨2, 7, b57, false⟩
/-- tables_after(schema, step); 0 schema, 1 step, 2 place, 3 rest, 4 columns, 5 good -/
def b59 : List S :=
  [(.asg 2 (.call 52 [(.var 0), (.sub (.var 1) (.cst (.int 1)))])),
   (.ife (.cmp .eq (.sub (.var 1) (.cst (.int 0))) (.cst (.str [99, 114, 101, 97, 116, 101])))
    [(.asg 5 (.and [(.call 25 [(.sub (.var 1) (.cst (.int 1)))]), (.cmp .is (.var 2) (.cst .non)), (.call 28 [(.sub (.var 1) (.cst (.int 2)))])])), (.ret (.ife (.var 5) (.call 53 [(.bin .add (.var 0) (.tup [(.tup [(.sub (.var 1) (.cst (.int 1))), (.sub (.var 1) (.cst (.int 2)))])]))]) (.cst .non)))]
    []),
   (.ife (.cmp .is (.var 2) (.cst .non))
    [(.ret (.cst .non))]
    []),
   (.asg 3 (.bin .add (.slc (.var 0) [] [(.var 2)]) (.slc (.var 0) [(.bin .add (.var 2) (.cst (.int 1)))] []))),
   (.ife (.cmp .eq (.sub (.var 1) (.cst (.int 0))) (.cst (.str [100, 114, 111, 112])))
    [(.ret (.var 3))]
    []),
   (.ife (.cmp .eq (.sub (.var 1) (.cst (.int 0))) (.cst (.str [114, 101, 110, 97, 109, 101])))
    [(.asg 5 (.and [(.call 25 [(.sub (.var 1) (.cst (.int 2)))]), (.cmp .is (.call 52 [(.var 0), (.sub (.var 1) (.cst (.int 2)))]) (.cst .non))])), (.ret (.ife (.var 5) (.call 53 [(.bin .add (.var 3) (.tup [(.tup [(.sub (.var 1) (.cst (.int 2))), (.sub (.sub (.var 0) (.var 2)) (.cst (.int 1)))])]))]) (.cst .non)))]
    []),
   (.asg 4 (.call 57 [(.sub (.sub (.var 0) (.var 2)) (.cst (.int 1))), (.var 1)])),
   (.ret (.ife (.cmp .is (.var 4) (.cst .non)) (.cst .non) (.call 53 [(.bin .add (.var 3) (.tup [(.tup [(.sub (.var 1) (.cst (.int 1))), (.var 4)])]))])))]
def D59 : Def := ⟨2, 6, b59, false⟩
/-- step_after(schema, step); 0 schema, 1 step, 2 found -/
def b60 : List S :=
  [(.ife (.not (.call 58 [(.var 1)]))
    [(.ret (.cst .non))]
    []),
   (.asg 2 (.call 59 [(.var 0), (.var 1)])),
   (.ret (.ife (.and [(.cmp .isn (.var 2) (.cst .non)), (.call 30 [(.var 2)])]) (.var 2) (.cst .non)))]
def D60 : Def := ⟨2, 3, b60, false⟩
/-- last_schema(schema, script); 0 schema, 1 script, 2 step -/
def b61 : List S :=
  [(.for (.name 2) (.val (.var 1))
    [(.asg 0 (.call 60 [(.var 0), (.var 2)])), (.ife (.cmp .is (.var 0) (.cst .non))
    [(.ret (.cst .non))]
    [])]),
   (.ret (.var 0))]
def D61 : Def := ⟨2, 3, b61, false⟩
/-- fits(schema, value); 0 schema, 1 value -/
def b62 : List S :=
  [(.ret (.and [(.isi (.var 1) .tup), (.cmp .isn (.call 61 [(.var 0), (.var 1)]) (.cst .non))]))]
def D62 : Def := ⟨2, 2, b62, false⟩
/-- need_script(schema, value); 0 schema, 1 value -/
def b63 : List S :=
  [(.expr (.call 31 [(.var 0)])),
   (.ife (.not (.call 62 [(.var 0), (.var 1)]))
    [(.raise 6)]
    [])]
def D63 : Def := ⟨2, 2, b63, false⟩
/-- is_script(schema, value); 0 schema, 1 value -/
def b64 : List S :=
  [(.expr (.call 31 [(.var 0)])),
   (.ret (.call 62 [(.var 0), (.var 1)]))]
def D64 : Def := ⟨2, 2, b64, false⟩
/-- schema_after(schema, script); 0 schema, 1 script -/
def b65 : List S :=
  [(.expr (.call 63 [(.var 0), (.var 1)])),
   (.ret (.call 61 [(.var 0), (.var 1)]))]
def D65 : Def := ⟨2, 2, b65, false⟩
/-- _law_box(schema, data); 0 schema, 1 data, 2 found, 3 rows, 4 cells, 5 name, 6 columns, 7 at, 8 column, 9 row -/
def b66 : List S :=
  [(.asg 2 (.mut .dict0)),
   (.for (.tup [(.tup [(.name 5), (.name 6)]), (.name 3)]) (.zip [(.var 0), (.var 1)])
    [(.asg 4 (.mut .dict0)), (.for (.tup [(.name 7), (.name 8)]) (.enum (.var 6))
    [(.asgI (.var 4) (.sub (.var 8) (.cst (.int 0))) (.frz (.disp [(.sub (.var 8) (.cst (.int 1))), (.sub (.var 8) (.cst (.int 2))), (.sub (.var 8) (.cst (.int 3))), (.frz (.comp [9] (.sub (.var 9) (.var 7)) (.name 9) (.val (.var 3)) []))])))]), (.asgI (.var 2) (.var 5) (.frz (.disp [(.bi .len [(.var 3)]), (.var 4)])))]),
   (.ret (.var 2))]
def D66 : Def := ⟨2, 10, b66, false⟩
/-- _law_empty(schema); 0 schema, 1 table -/
def b67 : List S :=
  [(.ret (.bi .tuple [(.frz (.comp [1] (.tup []) (.name 1) (.val (.var 0)) []))]))]
def D67 : Def := ⟨1, 2, b67, false⟩
/-- _law_is_cell(kind, value); 0 kind, 1 value -/
def b68 : List S :=
  [(.ret (.or [(.cmp .is (.var 1) (.cst .non)), (.call 18 [(.var 0), (.var 1)])]))]
def D68 : Def := ⟨2, 2, b68, false⟩
/-- _law_column_step_fits(cells, step); 0 cells, 1 step -/
def b69 : List S :=
  [(.ife (.cmp .eq (.sub (.var 1) (.cst (.int 0))) (.cst (.str [97, 100, 100])))
    [(.ret (.and [(.cmp .nin (.sub (.var 1) (.cst (.int 2))) (.var 0)), (.call 45 [(.sub (.var 1) (.cst (.int 3)))]), (.call 68 [(.sub (.var 1) (.cst (.int 3))), (.sub (.var 1) (.cst (.int 4)))])]))]
    []),
   (.ife (.cmp .nin (.sub (.var 1) (.cst (.int 2))) (.var 0))
    [(.ret (.cst (.bl false)))]
    []),
   (.ife (.cmp .isin (.sub (.var 1) (.cst (.int 0))) (.tup [(.cst (.str [99, 111, 112, 121])), (.cst (.str [114, 101, 108, 97, 98, 101, 108]))]))
    [(.ret (.and [(.call 44 [(.sub (.var 1) (.cst (.int 3)))]), (.cmp .nin (.sub (.var 1) (.cst (.int 3))) (.var 0))]))]
    []),
   (.ife (.cmp .eq (.sub (.var 1) (.cst (.int 0))) (.cst (.str [99, 111, 110, 118, 101, 114, 116])))
    [(.ret (.call 45 [(.sub (.var 1) (.cst (.int 3)))]))]
    []),
   (.ife (.cmp .eq (.sub (.var 1) (.cst (.int 0))) (.cst (.str [114, 101, 112, 108, 97, 99, 101])))
    [(.ret (.and [(.call 68 [(.sub (.sub (.var 0) (.sub (.var 1) (.cst (.int 2)))) (.cst (.int 0))), (.sub (.var 1) (.cst (.int 3)))]), (.call 68 [(.sub (.sub (.var 0) (.sub (.var 1) (.cst (.int 2)))) (.cst (.int 0))), (.sub (.var 1) (.cst (.int 4)))])]))]
    []),
   (.ret (.cst (.bl true)))]
def D69 : Def := ⟨2, 2, b69, false⟩
/-- _law_change(cell, step); 0 cell, 1 step, 2 found, 3 kind, 4 required, 5 unique, 6 values, 7 rows, 8 value, 9 row -/
def b71 : List S :=
  [(.asgT (.tup [(.name 3), (.name 4), (.name 5), (.name 6)]) (.var 0)),
   (.ife (.cmp .eq (.sub (.var 1) (.cst (.int 0))) (.cst (.str [99, 111, 110, 118, 101, 114, 116])))
    [(.asg 7 (.frz (.comp [8] (.call 22 [(.var 8), (.sub (.var 1) (.cst (.int 3)))]) (.name 8) (.val (.var 6)) []))), (.ife (.cmp .isin (.cst .non) (.var 7))
    [(.ret (.cst .non))]
    []), (.asgT (.tup [(.name 3), (.name 6)]) (.tup [(.sub (.var 1) (.cst (.int 3))), (.frz (.comp [9] (.sub (.var 9) (.cst (.int 0))) (.name 9) (.val (.var 7)) []))]))]
    [(.ife (.cmp .eq (.sub (.var 1) (.cst (.int 0))) (.cst (.str [114, 101, 112, 108, 97, 99, 101])))
    [(.asg 6 (.frz (.comp [8] (.ife (.cmp .eq (.call 40 [(.var 8)]) (.call 40 [(.sub (.var 1) (.cst (.int 3)))])) (.sub (.var 1) (.cst (.int 4))) (.var 8)) (.name 8) (.val (.var 6)) [])))]
    [(.ife (.cmp .isin (.sub (.var 1) (.cst (.int 0))) (.tup [(.cst (.str [114, 101, 113, 117, 105, 114, 101])), (.cst (.str [97, 108, 108, 111, 119]))]))
    [(.asg 4 (.cmp .eq (.sub (.var 1) (.cst (.int 0))) (.cst (.str [114, 101, 113, 117, 105, 114, 101]))))]
    [(.asg 5 (.cmp .eq (.sub (.var 1) (.cst (.int 0))) (.cst (.str [117, 110, 105, 113, 117, 101]))))])])]),
   (.asg 2 (.frz (.disp [(.var 3), (.var 4), (.var 5), (.var 6)]))),
   (.ret (.ife (.call 48 [(.var 2)]) (.var 2) (.cst .non)))]
def D71 : Def := ⟨2, 10, b71, false⟩
/-- _law_is_script(schema, value); 0 schema, 1 value, 2 box, 3 step, 4 table -/
def b73 : List S :=
  [(.ife (.not (.isi (.var 1) .tup))
    [(.ret (.cst (.bl false)))]
    []),
   (.asg 2 (.call 66 [(.var 0), (.bi .tuple [(.frz (.comp [4] (.tup []) (.name 4) (.val (.var 0)) []))])])),
   (.for (.name 3) (.val (.var 1))
    [(.ife (.not (.call 70 [(.var 2), (.var 3)]))
    [(.ret (.cst (.bl false)))]
    []), (.asg 2 (.call 72 [(.var 2), (.var 3)]))]),
   (.ret (.cst (.bl true)))]
def D73 : Def := ⟨2, 5, b73, false⟩
/-- _law_any_step(source); 0 source, 1 table, 2 way, 3 one, 4 other, 5 kind, 6 value, 7 turn -/
def b75 : List S :=
  [(.asg 1 (.call 13 [(.var 0), (.frz (.disp [(.cst (.str [99, 97, 116, 115])), (.cst (.str [99, 97, 116, 115])), (.cst (.str [100, 111, 103, 115])), (.cst (.str [112, 101, 116, 115])), (.cst (.str [116]))]))])),
   (.asgT (.tup [(.name 3), (.name 4)]) (.frz (.comp [7] (.call 13 [(.var 0), (.frz (.disp [(.cst (.str [97])), (.cst (.str [97, 103, 101])), (.cst (.str [98])), (.cst (.str [99])), (.cst (.str [110, 97, 109, 101]))]))]) (.name 7) (.rng (.cst (.int 0)) (.cst (.int 2))) []))),
   (.asgT (.tup [(.name 5), (.name 6)]) (.tup [(.call 15 [(.var 0)]), (.call 14 [(.var 0), (.call 15 [(.var 0)])])])),
   (.asg 2 (.call 12 [(.var 0), (.cst (.int 13))])),
   (.ife (.cmp .eq (.var 2) (.cst (.int 0)))
    [(.ret (.tup [(.cst (.str [99, 114, 101, 97, 116, 101])), (.var 1), (.call 37 [(.var 0), (.cst (.int 2))])]))]
    []),
   (.ife (.cmp .lt (.var 2) (.cst (.int 3)))
    [(.ret (.sub (.frz (.disp [(.tup [(.cst (.str [100, 114, 111, 112])), (.var 1)]), (.tup [(.cst (.str [114, 101, 110, 97, 109, 101])), (.var 1), (.call 13 [(.var 0), (.frz (.disp [(.cst (.str [100, 111, 103, 115])), (.cst (.str [117]))]))])])])) (.bin .sub (.var 2) (.cst (.int 1)))))]
    []),
   (.ife (.cmp .lt (.var 2) (.cst (.int 6)))
    [(.ret (.sub (.frz (.disp [(.tup [(.cst (.str [97, 100, 100])), (.var 1), (.var 3), (.var 5), (.var 6)]), (.tup [(.cst (.str [99, 111, 112, 121])), (.var 1), (.var 3), (.var 4)]), (.tup [(.cst (.str [114, 101, 108, 97, 98, 101, 108])), (.var 1), (.var 3), (.var 4)])])) (.bin .sub (.var 2) (.cst (.int 3)))))]
    []),
   (.ife (.cmp .lt (.var 2) (.cst (.int 9)))
    [(.ret (.sub (.frz (.disp [(.tup [(.cst (.str [114, 101, 109, 111, 118, 101])), (.var 1), (.var 3)]), (.tup [(.cst (.str [99, 111, 110, 118, 101, 114, 116])), (.var 1), (.var 3), (.var 5)]), (.tup [(.cst (.str [114, 101, 112, 108, 97, 99, 101])), (.var 1), (.var 3), (.var 6), (.cst .non)])])) (.bin .sub (.var 2) (.cst (.int 6)))))]
    []),
   (.ret (.tup [(.sub (.frz (.disp [(.cst (.str [114, 101, 113, 117, 105, 114, 101])), (.cst (.str [97, 108, 108, 111, 119])), (.cst (.str [117, 110, 105, 113, 117, 101])), (.cst (.str [114, 101, 112, 101, 97, 116]))])) (.bin .sub (.var 2) (.cst (.int 9)))), (.var 1), (.var 3)]))]
def D75 : Def := ⟨1, 8, b75, false⟩
/-- _law_steps(source, schema); 0 source, 1 schema, 2 turn, 3 box, 4 found, 5 step -/
def b76 : List S :=
  [(.asgT (.tup [(.name 3), (.name 4)]) (.tup [(.call 66 [(.var 1), (.call 67 [(.var 1)])]), (.tup [])])),
   (.for (.name 2) (.rng (.cst (.int 0)) (.call 12 [(.var 0), (.cst (.int 30))]))
    [(.asg 5 (.call 75 [(.var 0)])), (.ife (.and [(.cmp .lt (.bi .len [(.var 4)]) (.cst (.int 12))), (.call 70 [(.var 3), (.var 5)])])
    [(.asgT (.tup [(.name 4), (.name 3)]) (.tup [(.bin .add (.var 4) (.tup [(.var 5)])), (.call 72 [(.var 3), (.var 5)])]))]
    [])]),
   (.ret (.var 4))]
def D76 : Def := ⟨2, 6, b76, false⟩
/-- need_data(schema, value); 0 schema, 1 value -/
def b78 : List S :=
  [(.ife (.not (.call 35 [(.var 0), (.var 1)]))
    [(.raise 4)]
    [])]
def D78 : Def := ⟨2, 2, b78, false⟩
/-- changed_values(change, values); 0 change, 1 values, 2 rows, 3 value, 4 good, 5 found -/
def b79 : List S :=
  [(.ife (.cmp .eq (.sub (.var 0) (.cst (.int 0))) (.cst (.str [114, 101, 112, 108, 97, 99, 101])))
    [(.ret (.frz (.comp [3] (.ife (.cmp .eq (.call 24 [(.var 3)]) (.call 24 [(.sub (.var 0) (.cst (.int 1)))])) (.sub (.var 0) (.cst (.int 2))) (.var 3)) (.name 3) (.val (.var 1)) [])))]
    []),
   (.ife (.cmp .ne (.sub (.var 0) (.cst (.int 0))) (.cst (.str [99, 111, 110, 118, 101, 114, 116])))
    [(.ret (.var 1))]
    []),
   (.asg 2 (.frz (.comp [3] (.call 9 [(.var 3), (.sub (.var 0) (.cst (.int 1)))]) (.name 3) (.val (.var 1)) []))),
   (.ret (.ife (.bi .all [(.frz (.comp [4, 5] (.var 4) (.tup [(.name 4), (.name 5)]) (.val (.var 2)) []))]) (.frz (.comp [4, 5] (.var 5) (.tup [(.name 4), (.name 5)]) (.val (.var 2)) [])) (.cst .non)))]
def D79 : Def := ⟨2, 6, b79, false⟩
/-- keeps_marks(column, values); 0 column, 1 values -/
def b80 : List S :=
  [(.ret (.and [(.not (.and [(.sub (.var 0) (.cst (.int 2))), (.cmp .isin (.cst .non) (.var 1))])), (.not (.and [(.sub (.var 0) (.cst (.int 3))), (.call 33 [(.var 1)])]))]))]
def D80 : Def := ⟨2, 2, b80, false⟩
/-- changed(column, change, values); 0 column, 1 change, 2 values, 3 later, 4 found -/
def b81 : List S :=
  [(.asg 3 (.call 56 [(.var 0), (.bin .add (.tup [(.sub (.var 1) (.cst (.int 0))), (.cst (.str [])), (.cst (.str []))]) (.slc (.var 1) [(.cst (.int 1))] []))])),
   (.asg 4 (.call 79 [(.var 1), (.var 2)])),
   (.ret (.ife (.and [(.cmp .isn (.var 4) (.cst .non)), (.call 80 [(.var 3), (.var 4)])]) (.tup [(.var 3), (.var 4)]) (.cst .non)))]
def D81 : Def := ⟨3, 5, b81, false⟩
/-- data_of(schema, boxes); 0 schema, 1 boxes, 2 found, 3 name, 4 columns, 5 count, 6 cells, 7 at, 8 column -/
def b83 : List S :=
  [(.asg 2 (.mut (.disp []))),
   (.for (.tup [(.name 3), (.name 4)]) (.val (.var 0))
    [(.asgT (.tup [(.name 5), (.name 6)]) (.sub (.var 1) (.var 3))), (.expr (.meth (.var 2) 1 [(.bi .tuple [(.frz (.comp [7] (.bi .tuple [(.frz (.comp [8] (.sub (.sub (.var 6) (.sub (.var 8) (.cst (.int 0)))) (.var 7)) (.name 8) (.val (.var 4)) []))]) (.name 7) (.rng (.cst (.int 0)) (.var 5)) []))])]))]),
   (.ret (.bi .tuple [(.var 2)]))]
def D83 : Def := ⟨2, 9, b83, false⟩
/-- course(schema, script, data); 0 schema, 1 script, 2 data, 3 boxes, 4 number, 5 step -/
def b86 : List S :=
  [(.asg 3 (.call 82 [(.var 0), (.var 2)])),
   (.for (.tup [(.name 4), (.name 5)]) (.enum (.var 1))
    [(.asg 3 (.call 85 [(.var 0), (.var 3), (.var 5)])), (.ife (.cmp .is (.var 3) (.cst .non))
    [(.ret (.tup [(.cst .non), (.var 4)]))]
    []), (.asg 0 (.call 60 [(.var 0), (.var 5)]))]),
   (.ret (.tup [(.call 83 [(.var 0), (.var 3)]), (.cst .non)]))]
def D86 : Def := ⟨3, 6, b86, false⟩
/-- _law_run(schema, script, data); 0 schema, 1 script, 2 data, 3 box, 4 number, 5 step -/
def b90 : List S :=
  [(.asg 3 (.call 66 [(.var 0), (.var 2)])),
   (.for (.tup [(.name 4), (.name 5)]) (.enum (.var 1))
    [(.asg 3 (.call 72 [(.var 3), (.var 5)])), (.ife (.cmp .is (.var 3) (.cst .non))
    [(.ret (.tup [(.cst .non), (.cst .non), (.var 4)]))]
    [])]),
   (.ret (.bin .add (.call 74 [(.var 3)]) (.tup [(.cst .non)])))]
def D90 : Def := ⟨3, 6, b90, false⟩
/-- law(script); 0 script, 1 k, 2 pets, 3 plan, 4 source, 5 turn, 6 value, 7 schema, 8 found, 9 data, 10 later, 11 due, 12 number -/
def b92 : List S :=
  [(.for (.name 1) (.rng (.cst (.int 0)) (.bi .max [(.cst (.int 1)), (.bi .min [(.cst (.int 10)), (.bi .len [(.var 0)])])]))
    [(.asg 4 (.call 11 [(.var 0), (.var 1)])), (.for (.name 5) (.rng (.cst (.int 0)) (.cst (.int 3)))
    [(.asg 7 (.call 38 [(.var 4), (.cst (.int 3)), (.cst (.int 5))])), (.asgT (.tup [(.name 3), (.name 9)]) (.tup [(.call 89 [(.var 4), (.var 7), (.cst (.int 12))]), (.call 42 [(.var 4), (.var 7), (.cst (.int 6))])])), (.asgT (.tup [(.name 10), (.name 11), (.name 12)]) (.call 90 [(.var 7), (.var 3), (.var 9)])), (.asg 8 (.lam (.call 87 [(.var 7), (.var 3), (.var 9)]))), (.ife (.and [(.cmp .isn (.var 12) (.cst .non)), (.cmp .ne (.var 8) (.tup [(.cst (.str [101, 114, 114, 111, 114])), (.cst (.str [102, 97, 105, 108, 115, 32, 98, 97, 115, 101])), (.var 12)]))])
    [(.ret (.cst (.bl false)))]
    []), (.ife (.and [(.cmp .is (.var 12) (.cst .non)), (.or [(.cmp .ne (.sub (.var 8) (.cst (.int 0))) (.cst (.str [118, 97, 108, 117, 101]))), (.not (.call 91 [(.sub (.var 8) (.cst (.int 1))), (.var 11)]))])])
    [(.ret (.cst (.bl false)))]
    [])]), (.for (.name 6) (.val (.frz (.disp [(.cst .non), (.frz (.disp [])), (.bin .add (.var 9) (.tup [(.tup [])])), (.call 43 [(.var 4), (.var 9), (.cst (.int 3))])])))
    [(.ife (.and [(.not (.call 50 [(.var 7), (.var 6)])), (.not (.lamR (.call 87 [(.var 7), (.tup []), (.var 6)]) (.cst (.str [100, 97, 116, 97]))))])
    [(.ret (.cst (.bl false)))]
    [])]), (.ife (.or [(.not (.lamR (.call 87 [(.var 7), (.cst .non), (.cst .non)]) (.cst (.str [115, 99, 114, 105, 112, 116])))), (.not (.lamR (.call 87 [(.cst .non), (.cst .non), (.cst .non)]) (.cst (.str [115, 99, 104, 101, 109, 97]))))])
    [(.ret (.cst (.bl false)))]
    []), (.ife (.not (.call 91 [(.call 87 [(.var 7), (.tup []), (.var 9)]), (.var 9)]))
    [(.ret (.cst (.bl false)))]
    [])]),
   (.asg 2 (.tup [(.tup [(.cst (.str [112, 101, 116, 115])), (.tup [(.tup [(.cst (.str [97, 103, 101])), (.cst (.str [116, 101, 120, 116])), (.cst (.bl false)), (.cst (.bl false))]), (.tup [(.cst (.str [110, 97, 109, 101])), (.cst (.str [116, 101, 120, 116])), (.cst (.bl true)), (.cst (.bl true))])])])])),
   (.asg 3 (.tup [(.tup [(.cst (.str [99, 111, 110, 118, 101, 114, 116])), (.cst (.str [112, 101, 116, 115])), (.cst (.str [97, 103, 101])), (.cst (.str [105, 110, 116]))]), (.tup [(.cst (.str [114, 101, 112, 108, 97, 99, 101])), (.cst (.str [112, 101, 116, 115])), (.cst (.str [110, 97, 109, 101])), (.cst (.str [116, 111, 109])), (.cst (.str [114, 101, 120]))])])),
   (.ife (.cmp .ne (.lam (.call 87 [(.var 2), (.var 3), (.tup [(.tup [(.tup [(.cst (.str [55])), (.cst (.str [114, 101, 120]))]), (.tup [(.cst (.str [120])), (.cst (.str [116, 111, 109]))])])])])) (.tup [(.cst (.str [101, 114, 114, 111, 114])), (.cst (.str [102, 97, 105, 108, 115, 32, 98, 97, 115, 101])), (.cst (.int 0))]))
    [(.ret (.cst (.bl false)))]
    []),
   (.ret (.cmp .eq (.lam (.call 87 [(.var 2), (.var 3), (.tup [(.tup [(.tup [(.cst (.str [55])), (.cst (.str [114, 101, 120]))]), (.tup [(.cst (.str [56])), (.cst (.str [116, 111, 109]))])])])])) (.tup [(.cst (.str [101, 114, 114, 111, 114])), (.cst (.str [102, 97, 105, 108, 115, 32, 98, 97, 115, 101])), (.cst (.int 1))])))]
def D92 : Def := ⟨1, 13, b92, false⟩
/-- strands(schema, script); 0 schema, 1 script -/
def b94 : List S :=
  [(.expr (.call 63 [(.var 0), (.var 1)])),
   (.ret (.call 93 [(.var 0), (.var 1)]))]
def D94 : Def := ⟨2, 2, b94, false⟩
/-- _law_follow(table, step); 0 table, 1 step, 2 at, 3 row, 4 place -/
def b95 : List S :=
  [(.asg 2 (.frz (.comp [4, 3] (.var 4) (.tup [(.name 4), (.name 3)]) (.enum (.sub (.var 0) (.cst (.int 2)))) [(.and [(.cmp .isn (.sub (.var 3) (.cst (.int 2))) (.cst .non)), (.cmp .nin (.sub (.var 1) (.cst (.int 0))) (.tup [(.cst (.str [100, 114, 111, 112])), (.cst (.str [114, 101, 110, 97, 109, 101])), (.cst (.str [97, 100, 100]))])), (.cmp .eq (.sub (.var 3) (.cst (.int 2))) (.sub (.var 1) (.cst (.int 2))))])]))),
   (.ife (.cmp .eq (.sub (.var 1) (.cst (.int 0))) (.cst (.str [100, 114, 111, 112])))
    [(.asgI (.var 0) (.cst (.int 1)) (.cst .non)), (.for (.name 3) (.val (.sub (.var 0) (.cst (.int 2))))
    [(.asgI (.var 3) (.cst (.int 2)) (.cst .non))])]
    [(.ife (.cmp .eq (.sub (.var 1) (.cst (.int 0))) (.cst (.str [114, 101, 110, 97, 109, 101])))
    [(.asgI (.var 0) (.cst (.int 1)) (.sub (.var 1) (.cst (.int 2))))]
    [(.ife (.cmp .eq (.sub (.var 1) (.cst (.int 0))) (.cst (.str [97, 100, 100])))
    [(.expr (.meth (.sub (.var 0) (.cst (.int 2))) 1 [(.frz (.disp [(.tup [(.sub (.var 1) (.cst (.int 3))), (.sub (.var 1) (.cst (.int 4)))]), (.tup []), (.sub (.var 1) (.cst (.int 2)))]))]))]
    [(.ife (.cmp .eq (.sub (.var 1) (.cst (.int 0))) (.cst (.str [99, 111, 112, 121])))
    [(.asg 3 (.sub (.sub (.var 0) (.cst (.int 2))) (.sub (.var 2) (.cst (.int 0))))), (.expr (.meth (.sub (.var 0) (.cst (.int 2))) 1 [(.frz (.disp [(.sub (.var 3) (.cst (.int 0))), (.bin .add (.sub (.var 3) (.cst (.int 1))) (.tup [(.tup [(.cst (.str [114, 101, 112, 101, 97, 116]))])])), (.sub (.var 1) (.cst (.int 3)))]))]))]
    [(.ife (.cmp .isin (.sub (.var 1) (.cst (.int 0))) (.tup [(.cst (.str [114, 101, 109, 111, 118, 101])), (.cst (.str [114, 101, 108, 97, 98, 101, 108]))]))
    [(.asgI (.sub (.sub (.var 0) (.cst (.int 2))) (.sub (.var 2) (.cst (.int 0)))) (.cst (.int 2)) (.ife (.cmp .eq (.sub (.var 1) (.cst (.int 0))) (.cst (.str [114, 101, 108, 97, 98, 101, 108]))) (.sub (.var 1) (.cst (.int 3))) (.cst .non)))]
    [(.asgI (.sub (.sub (.var 0) (.cst (.int 2))) (.sub (.var 2) (.cst (.int 0)))) (.cst (.int 1)) (.bin .add (.sub (.sub (.sub (.var 0) (.cst (.int 2))) (.sub (.var 2) (.cst (.int 0)))) (.cst (.int 1))) (.tup [(.bin .add (.tup [(.sub (.var 1) (.cst (.int 0)))]) (.slc (.var 1) [(.cst (.int 3))] []))])))])])])])])]
def D95 : Def := ⟨2, 5, b95, false⟩
/-- _law_strands(schema, script); 0 schema, 1 script, 2 tables, 3 step, 4 table, 5 name, 6 columns, 7 column, 8 first, 9 last, 10 rows, 11 row -/
def b96 : List S :=
  [(.asg 2 (.frz (.comp [5, 6] (.frz (.disp [(.var 5), (.var 5), (.frz (.comp [7] (.frz (.disp [(.sub (.var 7) (.cst (.int 0))), (.tup []), (.sub (.var 7) (.cst (.int 0)))])) (.name 7) (.val (.var 6)) []))])) (.tup [(.name 5), (.name 6)]) (.val (.var 0)) []))),
   (.for (.name 3) (.val (.var 1))
    [(.for (.name 4) (.val (.var 2))
    [(.ife (.and [(.cmp .eq (.sub (.var 4) (.cst (.int 1))) (.sub (.var 3) (.cst (.int 1)))), (.cmp .ne (.sub (.var 3) (.cst (.int 0))) (.cst (.str [99, 114, 101, 97, 116, 101])))])
    [(.expr (.call 95 [(.var 4), (.var 3)]))]
    [])])]),
   (.ret (.bi .tuple [(.frz (.comp [8, 9, 10] (.tup [(.var 8), (.var 9), (.bi .tuple [(.frz (.comp [11] (.bi .tuple [(.var 11)]) (.name 11) (.val (.var 10)) []))])]) (.tup [(.name 8), (.name 9), (.name 10)]) (.val (.var 2)) []))]))]
def D96 : Def := ⟨2, 12, b96, false⟩
/-- _law_created(schema, plan); 0 schema, 1 plan, 2 names, 3 table, 4 first, 5 last, 6 rows -/
def b100 : List S :=
  [(.asg 2 (.frz (.comp [4, 5, 6] (.var 5) (.tup [(.name 4), (.name 5), (.name 6)]) (.val (.call 94 [(.var 0), (.var 1)])) []))),
   (.ret (.frz (.comp [3] (.var 3) (.name 3) (.val (.call 65 [(.var 0), (.var 1)])) [(.cmp .nin (.sub (.var 3) (.cst (.int 0))) (.var 2))])))]
def D100 : Def := ⟨2, 7, b100, false⟩
/-- law(script); 0 script, 1 k, 2 source, 3 turn, 4 schema, 5 found, 6 plan, 7 data, 8 later, 9 rows -/
def b101 : List S :=
  [(.for (.name 1) (.rng (.cst (.int 0)) (.bi .max [(.cst (.int 1)), (.bi .min [(.cst (.int 10)), (.bi .len [(.var 0)])])]))
    [(.asg 2 (.call 11 [(.var 0), (.var 1)])), (.for (.name 3) (.rng (.cst (.int 0)) (.cst (.int 4)))
    [(.asg 4 (.call 38 [(.var 2), (.cst (.int 3)), (.cst (.int 4))])), (.asgT (.tup [(.name 6), (.name 7)]) (.tup [(.call 89 [(.var 2), (.var 4), (.cst (.int 12))]), (.call 42 [(.var 2), (.var 4), (.cst (.int 5))])])), (.asgT (.tup [(.name 8), (.name 9)]) (.call 99 [(.var 4), (.call 94 [(.var 4), (.var 6)]), (.call 100 [(.var 4), (.var 6)]), (.var 7)])), (.asg 5 (.lam (.call 87 [(.var 4), (.var 6), (.var 7)]))), (.ife (.and [(.cmp .is (.var 8) (.cst .non)), (.cmp .ne (.slc (.var 5) [] [(.cst (.int 2))]) (.tup [(.cst (.str [101, 114, 114, 111, 114])), (.cst (.str [102, 97, 105, 108, 115, 32, 98, 97, 115, 101]))]))])
    [(.ret (.cst (.bl false)))]
    []), (.ife (.cmp .isn (.var 8) (.cst .non))
    [(.ife (.or [(.cmp .ne (.var 8) (.call 65 [(.var 4), (.var 6)])), (.not (.call 91 [(.var 5), (.tup [(.cst (.str [118, 97, 108, 117, 101])), (.var 9)])]))])
    [(.ret (.cst (.bl false)))]
    [])]
    [])])]),
   (.ret (.cst (.bl true)))]
def D101 : Def := ⟨1, 10, b101, false⟩
/-- _wall(k); 0 k -/
def b102 : List S :=
  [(.whl (.cst (.bl true))
    [.pass])]
def D102 : Def := ⟨1, 1, b102, false⟩
/-- renamings(pairs); 0 pairs, 1 now, 2 used, 3 left, 4 found, 5 free, 6 old, 7 new, 8 pair, 9 name, 10 one, 11 other -/
def b104 : List S :=
  [(.asg 1 (.frz (.comp [6, 7] (.var 6) (.tup [(.name 6), (.name 7)]) (.val (.var 0)) []))),
   (.asg 2 (.bin .add (.var 1) (.frz (.comp [6, 7] (.var 7) (.tup [(.name 6), (.name 7)]) (.val (.var 0)) [])))),
   (.asgT (.tup [(.name 3), (.name 4)]) (.tup [(.frz (.comp [6, 7] (.tup [(.var 6), (.var 7)]) (.tup [(.name 6), (.name 7)]) (.val (.var 0)) [(.cmp .ne (.var 6) (.var 7))])), (.mut (.disp []))])),
   (.whl (.cmp .ne (.var 3) (.frz (.disp [])))
    [(.asg 5 (.frz (.comp [8] (.var 8) (.name 8) (.val (.var 3)) [(.cmp .nin (.sub (.var 8) (.cst (.int 1))) (.var 1))]))), (.asgT (.tup [(.name 6), (.name 7)]) (.ife (.cmp .ne (.var 5) (.frz (.disp []))) (.sub (.var 5) (.cst (.int 0))) (.tup [(.sub (.sub (.var 3) (.cst (.int 0))) (.cst (.int 0))), (.call 103 [(.var 2)])]))), (.expr (.meth (.var 4) 1 [(.tup [(.var 6), (.var 7)])])), (.asg 1 (.frz (.comp [9] (.ife (.cmp .eq (.var 9) (.var 6)) (.var 7) (.var 9)) (.name 9) (.val (.var 1)) []))), (.asg 3 (.frz (.comp [10, 11] (.tup [(.ife (.cmp .eq (.var 10) (.var 6)) (.var 7) (.var 10)), (.var 11)]) (.tup [(.name 10), (.name 11)]) (.val (.var 3)) []))), (.asg 3 (.frz (.comp [10, 11] (.tup [(.var 10), (.var 11)]) (.tup [(.name 10), (.name 11)]) (.val (.var 3)) [(.cmp .ne (.var 10) (.var 11))])))]),
   (.ret (.var 4))]
def D104 : Def := ⟨1, 12, b104, false⟩
/-- created_by(schema, script); 0 schema, 1 script, 2 names, 3 table, 4 first, 5 name, 6 rows -/
def b105 : List S :=
  [(.asg 2 (.frz (.comp [4, 5, 6] (.var 5) (.tup [(.name 4), (.name 5), (.name 6)]) (.val (.call 93 [(.var 0), (.var 1)])) []))),
   (.ret (.frz (.comp [3] (.var 3) (.name 3) (.val (.call 61 [(.var 0), (.var 1)])) [(.cmp .nin (.sub (.var 3) (.cst (.int 0))) (.var 2))])))]
def D105 : Def := ⟨2, 7, b105, false⟩
/-- spread(table, rows); 0 table, 1 rows, 2 used, 3 row, 4 found, 5 names, 6 name -/
def b106 : List S :=
  [(.ife (.cmp .gt (.bi .len [(.var 1)]) (.cst (.int 8)))
    [(.raise 17)]
    []),
   (.asg 2 (.bin .add (.frz (.comp [3] (.sub (.var 3) (.cst (.int 0))) (.name 3) (.val (.var 1)) [(.isi (.sub (.var 3) (.cst (.int 0))) .str)])) (.frz (.comp [3] (.sub (.var 3) (.cst (.int 2))) (.name 3) (.val (.var 1)) [(.cmp .isn (.sub (.var 3) (.cst (.int 2))) (.cst .non))])))),
   (.asgT (.tup [(.name 4), (.name 5)]) (.tup [(.mut (.disp [])), (.mut (.disp []))])),
   (.for (.name 3) (.val (.var 1))
    [(.asg 6 (.sub (.var 3) (.cst (.int 0)))), (.ife (.or [(.not (.isi (.var 6) .str)), (.cmp .isin (.var 6) (.var 5))])
    [(.asg 6 (.call 103 [(.var 2)])), (.expr (.meth (.var 2) 1 [(.var 6)]))]
    []), (.expr (.meth (.var 5) 1 [(.var 6)])), (.expr (.meth (.var 4) 1 [(.tup [(.var 6), (.var 3)])]))]),
   (.ret (.var 4))]
def D106 : Def := ⟨2, 7, b106, false⟩
/-- begin_of(table, spread_rows); 0 table, 1 spread_rows, 2 found, 3 name, 4 row -/
def b107 : List S :=
  [(.asg 2 (.mut (.disp []))),
   (.for (.tup [(.name 3), (.name 4)]) (.val (.var 1))
    [(.ife (.not (.isi (.sub (.var 4) (.cst (.int 0))) .str))
    [(.expr (.meth (.var 2) 1 [(.bin .add (.tup [(.cst (.str [97, 100, 100])), (.var 0), (.var 3)]) (.sub (.var 4) (.cst (.int 0))))]))]
    [(.ife (.cmp .ne (.var 3) (.sub (.var 4) (.cst (.int 0))))
    [(.expr (.meth (.var 2) 1 [(.tup [(.cst (.str [99, 111, 112, 121])), (.var 0), (.sub (.var 4) (.cst (.int 0))), (.var 3)])]))]
    [])])]),
   (.ret (.var 2))]
def D107 : Def := ⟨2, 5, b107, false⟩
/-- script_of(plan, created); 0 plan, 1 created, 2 found, 3 lists, 4 later, 5 table, 6 last, 7 rows, 8 all_rows, 9 name, 10 row, 11 kept, 12 pair, 13 change, 14 columns -/
def b108 : List S :=
  [(.asgT (.tup [(.name 3), (.name 4)]) (.tup [(.frz (.disp [(.frz (.disp [])), (.frz (.disp [])), (.frz (.disp [])), (.frz (.disp []))])), (.mut (.disp []))])),
   (.for (.tup [(.name 5), (.name 6), (.name 7)]) (.val (.var 0))
    [(.asg 8 (.call 106 [(.var 5), (.var 7)])), (.expr (.meth (.sub (.var 3) (.cst (.int 0))) 2 [(.call 107 [(.var 5), (.var 8)])])), (.for (.tup [(.name 9), (.name 10)]) (.val (.var 8))
    [(.expr (.meth (.sub (.var 3) (.cst (.int 1))) 2 [(.frz (.comp [13] (.bin .add (.tup [(.sub (.var 13) (.cst (.int 0))), (.var 5), (.var 9)]) (.slc (.var 13) [(.cst (.int 1))] [])) (.name 13) (.val (.sub (.var 10) (.cst (.int 1)))) []))])), (.ife (.and [(.cmp .is (.sub (.var 10) (.cst (.int 2))) (.cst .non)), (.cmp .isn (.var 6) (.cst .non))])
    [(.expr (.meth (.sub (.var 3) (.cst (.int 2))) 1 [(.tup [(.cst (.str [114, 101, 109, 111, 118, 101])), (.var 5), (.var 9)])]))]
    [])]), (.ife (.cmp .isn (.var 6) (.cst .non))
    [(.asg 11 (.frz (.comp [9, 10] (.tup [(.var 9), (.sub (.var 10) (.cst (.int 2)))]) (.tup [(.name 9), (.name 10)]) (.val (.var 8)) [(.cmp .isn (.sub (.var 10) (.cst (.int 2))) (.cst .non))]))), (.expr (.meth (.sub (.var 3) (.cst (.int 3))) 2 [(.frz (.comp [12] (.bin .add (.tup [(.cst (.str [114, 101, 108, 97, 98, 101, 108])), (.var 5)]) (.var 12)) (.name 12) (.val (.call 104 [(.var 11)])) []))])), (.expr (.meth (.var 4) 1 [(.tup [(.var 5), (.var 6)])]))]
    [])]),
   (.asg 2 (.bin .add (.bin .add (.bin .add (.sub (.var 3) (.cst (.int 0))) (.sub (.var 3) (.cst (.int 1)))) (.sub (.var 3) (.cst (.int 2)))) (.sub (.var 3) (.cst (.int 3))))),
   (.asg 2 (.bin .add (.var 2) (.frz (.comp [5, 6, 7] (.tup [(.cst (.str [100, 114, 111, 112])), (.var 5)]) (.tup [(.name 5), (.name 6), (.name 7)]) (.val (.var 0)) [(.cmp .is (.var 6) (.cst .non))])))),
   (.asg 2 (.bin .add (.var 2) (.frz (.comp [12] (.bin .add (.tup [(.cst (.str [114, 101, 110, 97, 109, 101]))]) (.var 12)) (.name 12) (.val (.call 104 [(.var 4)])) [])))),
   (.ret (.bi .tuple [(.bin .add (.var 2) (.frz (.comp [9, 14] (.tup [(.cst (.str [99, 114, 101, 97, 116, 101])), (.var 9), (.var 14)]) (.tup [(.name 9), (.name 14)]) (.val (.var 1)) [])))]))]
def D108 : Def := ⟨2, 15, b108, false⟩
/-- sorted_script(schema, script); 0 schema, 1 script -/
def b109 : List S :=
  [(.expr (.call 63 [(.var 0), (.var 1)])),
   (.ret (.call 108 [(.call 93 [(.var 0), (.var 1)]), (.call 105 [(.var 0), (.var 1)])]))]
def D109 : Def := ⟨2, 2, b109, false⟩
/-- named_values(scripts); 0 scripts, 1 script, 2 met, 3 number, 4 found, 5 left, 6 step, 7 value, 8 rows, 9 kind, 10 good, 11 later -/
def b110 : List S :=
  [(.asgT (.tup [(.name 4), (.name 5)]) (.tup [(.mut (.disp [])), (.mut (.disp [(.cst (.int 0)), (.cst (.int 1)), (.cst (.str [48])), (.cst (.str [49])), (.cst (.str [102, 97, 108, 115, 101])), (.cst (.str [116, 114, 117, 101])), (.cst (.bl false)), (.cst (.bl true))]))])),
   (.for (.name 1) (.val (.var 0))
    [(.for (.name 6) (.val (.var 1))
    [(.asg 5 (.bin .add (.bin .add (.var 5) (.ife (.cmp .eq (.sub (.var 6) (.cst (.int 0))) (.cst (.str [97, 100, 100]))) (.frz (.disp [(.sub (.var 6) (.cst (.int 4)))])) (.frz (.disp [])))) (.ife (.cmp .eq (.sub (.var 6) (.cst (.int 0))) (.cst (.str [114, 101, 112, 108, 97, 99, 101]))) (.frz (.listof (.slc (.var 6) [(.cst (.int 3))] []))) (.frz (.disp [])))))])]),
   (.asg 2 (.mut .dict0)),
   (.whl (.cmp .ne (.var 5) (.frz (.disp [])))
    [(.asg 7 (.meth (.var 5) 3 [])), (.ife (.and [(.cmp .isn (.var 7) (.cst .non)), (.cmp .nin (.call 24 [(.var 7)]) (.var 2))])
    [(.asgI (.var 2) (.call 24 [(.var 7)]) (.cst (.bl true))), (.expr (.meth (.var 4) 1 [(.var 7)])), (.asg 8 (.frz (.comp [9] (.call 9 [(.var 7), (.var 9)]) (.name 9) (.val (.cst (.tup [(.str [105, 110, 116]), (.str [116, 101, 120, 116]), (.str [102, 108, 97, 103])]))) []))), (.expr (.meth (.var 5) 2 [(.frz (.comp [10, 11] (.var 11) (.tup [(.name 10), (.name 11)]) (.val (.var 8)) [(.var 10)]))]))]
    [])]),
   (.asg 3 (.cst (.int 2))),
   (.whl (.cmp .lt (.bi .len [(.var 4)]) (.bin .add (.bi .len [(.var 2)]) (.cst (.int 6))))
    [(.ife (.and [(.cmp .nin (.tup [(.cst (.str [105, 110, 116])), (.var 3)]) (.var 2)), (.cmp .nin (.tup [(.cst (.str [116, 101, 120, 116])), (.bin .add (.cst (.str [63])) (.bi .str [(.var 3)]))]) (.var 2))])
    [(.expr (.meth (.var 4) 2 [(.frz (.disp [(.var 3), (.bi .str [(.var 3)]), (.bin .add (.cst (.str [63])) (.bi .str [(.var 3)]))]))]))]
    []), (.aug 3 .add (.cst (.int 1)))]),
   (.ret (.var 4))]
def D110 : Def := ⟨1, 12, b110, false⟩
/-- domain(column, values); 0 column, 1 values, 2 found, 3 value -/
def b111 : List S :=
  [(.asg 2 (.frz (.comp [3] (.var 3) (.name 3) (.val (.var 1)) [(.call 4 [(.sub (.var 0) (.cst (.int 1))), (.var 3)])]))),
   (.ret (.ife (.sub (.var 0) (.cst (.int 2))) (.var 2) (.bin .add (.var 2) (.frz (.disp [(.cst .non)])))))]
def D111 : Def := ⟨2, 4, b111, false⟩
/-- outcome(column, changes, values); 0 column, 1 changes, 2 values, 3 change, 4 row -/
def b112 : List S :=
  [(.for (.name 3) (.val (.var 1))
    [(.asg 4 (.call 81 [(.var 0), (.var 3), (.var 2)])), (.ife (.cmp .is (.var 4) (.cst .non))
    [(.ret (.cst .non))]
    []), (.asgT (.tup [(.name 0), (.name 2)]) (.var 4))]),
   (.ret (.var 2))]
def D112 : Def := ⟨3, 5, b112, false⟩
/-- with_cell(columns, row, name, value); 0 columns, 1 row, 2 name, 3 value, 4 column, 5 cell -/
def b114 : List S :=
  [(.ret (.bi .tuple [(.frz (.comp [4, 5] (.ife (.cmp .eq (.sub (.var 4) (.cst (.int 0))) (.var 2)) (.var 3) (.var 5)) (.tup [(.name 4), (.name 5)]) (.zip [(.var 0), (.var 1)]) []))]))]
def D114 : Def := ⟨4, 6, b114, false⟩
/-- data_with(schema, place, rows); 0 schema, 1 place, 2 rows, 3 at -/
def b115 : List S :=
  [(.ret (.bi .tuple [(.frz (.comp [3] (.ife (.cmp .eq (.var 3) (.var 1)) (.bi .tuple [(.var 2)]) (.tup [])) (.name 3) (.rng (.cst (.int 0)) (.bi .len [(.var 0)])) []))]))]
def D115 : Def := ⟨3, 4, b115, false⟩
/-- has_unique(column, rows); 0 column, 1 rows, 2 row -/
def b116 : List S :=
  [(.ret (.or [(.sub (.var 0) (.cst (.int 3))), (.bi .any [(.frz (.comp [2] (.cmp .isin (.tup [(.cst (.str [117, 110, 105, 113, 117, 101]))]) (.sub (.var 2) (.cst (.int 1)))) (.name 2) (.val (.var 1)) []))])]))]
def D116 : Def := ⟨2, 3, b116, false⟩
/-- unlike(schema, scripts, data); 0 schema, 1 scripts, 2 data, 3 first, 4 second, 5 script -/
def b117 : List S :=
  [(.asgT (.tup [(.name 3), (.name 4)]) (.frz (.comp [5] (.sub (.call 86 [(.var 0), (.var 5), (.var 2)]) (.cst (.int 0))) (.name 5) (.val (.var 1)) []))),
   (.ret (.cmp .ne (.var 3) (.var 4)))]
def D117 : Def := ⟨3, 6, b117, false⟩
/-- need_scripts(schema, one, other); 0 schema, 1 one, 2 other -/
def b121 : List S :=
  [(.expr (.call 63 [(.var 0), (.var 1)])),
   (.expr (.call 63 [(.var 0), (.var 2)]))]
def D121 : Def := ⟨3, 3, b121, false⟩
/-- equal(schema, one, other); 0 schema, 1 one, 2 other -/
def b122 : List S :=
  [(.expr (.call 121 [(.var 0), (.var 1), (.var 2)])),
   (.ret (.cmp .is (.call 120 [(.var 0), (.var 1), (.var 2)]) (.cst .non)))]
def D122 : Def := ⟨3, 3, b122, false⟩
/-- _law_rank(word); 0 word, 1 ranks -/
def b124 : List S :=
  [(.asg 1 (.frz (.ddisp [.str [97, 100, 100], .str [99, 111, 112, 121], .str [114, 101, 109, 111, 118, 101], .str [114, 101, 108, 97, 98, 101, 108], .str [100, 114, 111, 112], .str [114, 101, 110, 97, 109, 101], .str [99, 114, 101, 97, 116, 101]] [(.cst (.int 0)), (.cst (.int 0)), (.cst (.int 2)), (.cst (.int 3)), (.cst (.int 4)), (.cst (.int 5)), (.cst (.int 6))]))),
   (.ret (.meth (.var 1) 7 [(.var 0), (.cst (.int 1))]))]
def D124 : Def := ⟨1, 2, b124, false⟩
/-- difference(schema, one, other); 0 schema, 1 one, 2 other -/
def b126 : List S :=
  [(.expr (.call 121 [(.var 0), (.var 1), (.var 2)])),
   (.ret (.call 120 [(.var 0), (.var 1), (.var 2)]))]
def D126 : Def := ⟨3, 3, b126, false⟩
/-- _law_near(source, schema, script); 0 source, 1 schema, 2 script, 3 at, 4 more, 5 some, 6 one, 7 low -/
def b127 : List S :=
  [(.asg 3 (.call 12 [(.var 0), (.bin .add (.bi .len [(.var 2)]) (.cst (.int 1)))])),
   (.asg 4 (.call 89 [(.var 0), (.var 1), (.cst (.int 3))])),
   (.asg 5 (.mut (.disp [(.bin .add (.slc (.var 2) [] [(.var 3)]) (.slc (.var 2) [(.bin .add (.var 3) (.cst (.int 1)))] [])), (.bin .add (.bin .add (.slc (.var 2) [] [(.var 3)]) (.slc (.var 2) [(.var 3)] [(.bin .add (.var 3) (.cst (.int 1)))])) (.slc (.var 2) [(.var 3)] [])), (.var 4), (.bin .add (.var 2) (.slc (.var 2) [(.neg (.cst (.int 1)))] []))]))),
   (.ife (.cmp .gt (.bi .len [(.var 2)]) (.cst (.int 1)))
    [(.asg 7 (.call 12 [(.var 0), (.bin .sub (.bi .len [(.var 2)]) (.cst (.int 1)))])), (.expr (.meth (.var 5) 1 [(.bin .add (.bin .add (.slc (.var 2) [] [(.var 7)]) (.tup [(.sub (.var 2) (.bin .add (.var 7) (.cst (.int 1)))), (.sub (.var 2) (.var 7))])) (.slc (.var 2) [(.bin .add (.var 7) (.cst (.int 2)))] []))]))]
    []),
   (.asg 6 (.call 13 [(.var 0), (.var 5)])),
   (.ret (.ife (.call 64 [(.var 1), (.var 6)]) (.var 6) (.var 2)))]
def D127 : Def := ⟨3, 8, b127, false⟩
/-- _law_flags(source); 0 source, 1 names, 2 columns, 3 name -/
def b129 : List S :=
  [(.asg 1 (.slc (.frz (.disp [(.cst (.str [97])), (.cst (.str [98]))])) [] [(.bin .add (.cst (.int 1)) (.call 12 [(.var 0), (.cst (.int 2))]))])),
   (.asg 2 (.bi .tuple [(.frz (.comp [3] (.tup [(.var 3), (.cst (.str [102, 108, 97, 103])), (.cmp .eq (.call 12 [(.var 0), (.cst (.int 3))]) (.cst (.int 0))), (.cmp .eq (.call 12 [(.var 0), (.cst (.int 3))]) (.cst (.int 0)))]) (.name 3) (.val (.var 1)) []))])),
   (.ret (.tup [(.tup [(.cst (.str [116])), (.var 2)])]))]
def D129 : Def := ⟨1, 4, b129, false⟩
/-- _law_all_rows(columns); 0 columns, 1 found, 2 column, 3 some, 4 later, 5 row, 6 value -/
def b130 : List S :=
  [(.asg 1 (.frz (.disp [(.tup [])]))),
   (.for (.name 2) (.val (.var 0))
    [(.asg 3 (.bin .add (.frz (.disp [(.cst (.bl false)), (.cst (.bl true))])) (.ife (.sub (.var 2) (.cst (.int 2))) (.frz (.disp [])) (.frz (.disp [(.cst .non)]))))), (.asg 4 (.frz (.disp []))), (.for (.name 5) (.val (.var 1))
    [(.asg 4 (.bin .add (.var 4) (.frz (.comp [6] (.bin .add (.var 5) (.tup [(.var 6)])) (.name 6) (.val (.var 3)) []))))]), (.asg 1 (.var 4))]),
   (.ret (.var 1))]
def D130 : Def := ⟨1, 7, b130, false⟩
/-- _law_all_data(schema); 0 schema, 1 rows, 2 found, 3 one, 4 data, 5 row, 6 other -/
def b131 : List S :=
  [(.asg 1 (.call 130 [(.sub (.sub (.var 0) (.cst (.int 0))) (.cst (.int 1)))])),
   (.asg 2 (.bin .add (.frz (.disp [(.tup [(.tup [])])])) (.frz (.comp [5] (.tup [(.tup [(.var 5)])]) (.name 5) (.val (.var 1)) [])))),
   (.for (.name 3) (.val (.var 1))
    [(.asg 2 (.bin .add (.var 2) (.frz (.comp [6] (.tup [(.tup [(.var 3), (.var 6)])]) (.name 6) (.val (.var 1)) []))))]),
   (.ret (.frz (.comp [4] (.var 4) (.name 4) (.val (.var 2)) [(.call 36 [(.var 0), (.var 4)])])))]
def D131 : Def := ⟨1, 7, b131, false⟩
/-- is_equal_script(schema, script, value); 0 schema, 1 script, 2 value -/
def b133 : List S :=
  [(.ret (.and [(.call 62 [(.var 0), (.var 2)]), (.cmp .is (.call 120 [(.var 0), (.var 1), (.var 2)]) (.cst .non))]))]
def D133 : Def := ⟨3, 3, b133, false⟩
/-- needless(schema, script); 0 schema, 1 script, 2 at -/
def b134 : List S :=
  [(.expr (.call 63 [(.var 0), (.var 1)])),
   (.ret (.frz (.comp [2] (.var 2) (.name 2) (.rng (.cst (.int 0)) (.bi .len [(.var 1)])) [(.call 133 [(.var 0), (.var 1), (.bin .add (.slc (.var 1) [] [(.var 2)]) (.slc (.var 1) [(.bin .add (.var 2) (.cst (.int 1)))] []))])])))]
def D134 : Def := ⟨2, 3, b134, false⟩
/-- can_exchange(schema, script, number); 0 schema, 1 script, 2 number, 3 turned -/
def b135 : List S :=
  [(.expr (.call 63 [(.var 0), (.var 1)])),
   (.ife (.not (.call 1 [(.var 2), (.cst (.int 0)), (.bin .sub (.bi .len [(.var 1)]) (.cst (.int 2)))]))
    [(.raise 2)]
    []),
   (.asg 3 (.bin .add (.bin .add (.slc (.var 1) [] [(.var 2)]) (.tup [(.sub (.var 1) (.bin .add (.var 2) (.cst (.int 1)))), (.sub (.var 1) (.var 2))])) (.slc (.var 1) [(.bin .add (.var 2) (.cst (.int 2)))] []))),
   (.ret (.call 133 [(.var 0), (.var 1), (.var 3)]))]
def D135 : Def := ⟨3, 4, b135, false⟩
/-- failing_data(schema, script); 0 schema, 1 script, 2 place, 3 view, 4 rows, 5 data -/
def b138 : List S :=
  [(.expr (.call 63 [(.var 0), (.var 1)])),
   (.for (.tup [(.name 2), (.name 3)]) (.enum (.call 113 [(.var 0), (.var 1), (.call 110 [(.frz (.disp [(.var 1)]))])]))
    [(.for (.name 4) (.val (.call 137 [(.var 3)]))
    [(.asg 5 (.call 115 [(.var 0), (.var 2), (.var 4)])), (.ife (.cmp .is (.sub (.call 86 [(.var 0), (.var 1), (.var 5)]) (.cst (.int 0))) (.cst .non))
    [(.ret (.var 5))]
    [])])]),
   (.ret (.cst .non))]
def D138 : Def := ⟨2, 6, b138, false⟩
/-- law(script); 0 script, 1 k, 2 source, 3 schema, 4 plan, 5 low, 6 fails, 7 turn, 8 others, 9 none_so, 10 at, 11 data, 12 other, 13 first, 14 last, 15 rows -/
def b139 : List S :=
  [(.for (.name 1) (.rng (.cst (.int 0)) (.bi .max [(.cst (.int 1)), (.bi .min [(.cst (.int 6)), (.bi .len [(.var 0)])])]))
    [(.asg 2 (.call 11 [(.var 0), (.var 1)])), (.asg 3 (.call 38 [(.var 2), (.cst (.int 3)), (.cst (.int 3))])), (.asg 4 (.call 89 [(.var 2), (.var 3), (.cst (.int 7))])), (.asgT (.tup [(.name 8), (.name 9)]) (.tup [(.mut (.disp [])), (.call 134 [(.var 3), (.var 4)])])), (.ife (.cmp .ne (.var 9) (.frz (.disp [])))
    [(.asg 10 (.sub (.var 9) (.call 12 [(.var 2), (.bi .len [(.var 9)])]))), (.expr (.meth (.var 8) 1 [(.bin .add (.slc (.var 4) [] [(.var 10)]) (.slc (.var 4) [(.bin .add (.var 10) (.cst (.int 1)))] []))]))]
    []), (.for (.name 5) (.rng (.cst (.int 0)) (.bin .sub (.bi .len [(.var 4)]) (.cst (.int 1))))
    [(.ife (.call 135 [(.var 3), (.var 4), (.var 5)])
    [(.expr (.meth (.var 8) 1 [(.bin .add (.bin .add (.slc (.var 4) [] [(.var 5)]) (.tup [(.sub (.var 4) (.bin .add (.var 5) (.cst (.int 1)))), (.sub (.var 4) (.var 5))])) (.slc (.var 4) [(.bin .add (.var 5) (.cst (.int 2)))] []))]))]
    [])]), (.ife (.cmp .le (.bi .max [(.frz (.comp [13, 14, 15] (.bi .len [(.var 15)]) (.tup [(.name 13), (.name 14), (.name 15)]) (.val (.call 96 [(.var 3), (.var 4)])) []))]) (.cst (.int 8)))
    [(.expr (.meth (.var 8) 1 [(.call 109 [(.var 3), (.var 4)])]))]
    []), (.asg 6 (.cmp .isn (.call 138 [(.var 3), (.var 4)]) (.cst .non))), (.for (.name 7) (.rng (.cst (.int 0)) (.cst (.int 8)))
    [(.asg 11 (.call 42 [(.var 2), (.var 3), (.cst (.int 8))])), (.ife (.cmp .ne (.frz (.comp [12] (.cst (.int 1)) (.name 12) (.val (.var 8)) [(.not (.call 123 [(.var 3), (.var 4), (.var 12), (.var 11)]))])) (.frz (.disp [])))
    [(.ret (.cst (.bl false)))]
    []), (.ife (.and [(.not (.var 6)), (.cmp .is (.sub (.call 90 [(.var 3), (.var 4), (.var 11)]) (.cst (.int 0))) (.cst .non))])
    [(.ret (.cst (.bl false)))]
    [])]), (.ife (.and [(.cmp .ne (.var 8) (.frz (.disp []))), (.cmp .isn (.call 122 [(.var 3), (.var 4), (.sub (.var 8) (.cst (.int 0)))]) (.cst (.bl true)))])
    [(.ret (.cst (.bl false)))]
    [])]),
   (.ret (.cst (.bl true)))]
def D139 : Def := ⟨1, 16, b139, false⟩
/-- _law_equal_flags(schema, plan, other); 0 schema, 1 plan, 2 other, 3 data -/
def b140 : List S :=
  [(.ife (.or [(.not (.call 64 [(.var 0), (.var 2)])), (.cmp .ne (.sub (.call 90 [(.var 0), (.var 1), (.tup [(.tup [])])]) (.cst (.int 0))) (.sub (.call 90 [(.var 0), (.var 2), (.tup [(.tup [])])]) (.cst (.int 0))))])
    [(.ret (.cst (.bl false)))]
    []),
   (.ret (.cmp .eq (.frz (.comp [3] (.cst (.int 1)) (.name 3) (.val (.call 131 [(.var 0)])) [(.not (.call 123 [(.var 0), (.var 1), (.var 2), (.var 3)]))])) (.frz (.disp []))))]
def D140 : Def := ⟨3, 4, b140, false⟩
/-- law(script); 0 script, 1 k, 2 schema, 3 plan, 4 source, 5 turn, 6 due, 7 found, 8 low, 9 value, 10 turned, 11 at -/
def b141 : List S :=
  [(.for (.name 1) (.rng (.cst (.int 0)) (.bi .max [(.cst (.int 1)), (.bi .min [(.cst (.int 5)), (.bi .len [(.var 0)])])]))
    [(.asg 4 (.call 11 [(.var 0), (.var 1)])), (.for (.name 5) (.rng (.cst (.int 0)) (.cst (.int 3)))
    [(.asg 2 (.call 129 [(.var 4)])), (.asg 3 (.call 89 [(.var 4), (.var 2), (.cst (.int 5))])), (.asg 6 (.frz (.comp [11] (.var 11) (.name 11) (.rng (.cst (.int 0)) (.bi .len [(.var 3)])) [(.call 140 [(.var 2), (.var 3), (.bin .add (.slc (.var 3) [] [(.var 11)]) (.slc (.var 3) [(.bin .add (.var 11) (.cst (.int 1)))] []))])]))), (.asg 7 (.call 134 [(.var 2), (.var 3)])), (.ife (.or [(.cmp .ne (.var 7) (.var 6)), (.not (.isi (.var 7) .lst))])
    [(.ret (.cst (.bl false)))]
    []), (.for (.name 8) (.rng (.cst (.int 0)) (.bin .sub (.bi .len [(.var 3)]) (.cst (.int 1))))
    [(.asg 10 (.bin .add (.bin .add (.slc (.var 3) [] [(.var 8)]) (.tup [(.sub (.var 3) (.bin .add (.var 8) (.cst (.int 1)))), (.sub (.var 3) (.var 8))])) (.slc (.var 3) [(.bin .add (.var 8) (.cst (.int 2)))] []))), (.ife (.not (.call 19 [(.call 135 [(.var 2), (.var 3), (.var 8)]), (.call 140 [(.var 2), (.var 3), (.var 10)])]))
    [(.ret (.cst (.bl false)))]
    [])]), (.for (.name 9) (.val (.frz (.disp [(.neg (.cst (.int 1))), (.bin .sub (.bi .len [(.var 3)]) (.cst (.int 1))), (.cst .non), (.cst (.bl true)), (.cst (.str [48]))])))
    [(.ife (.not (.lamR (.call 135 [(.var 2), (.var 3), (.var 9)]) (.cst (.str [110, 117, 109, 98, 101, 114]))))
    [(.ret (.cst (.bl false)))]
    [])])]), (.ife (.or [(.not (.lamR (.call 134 [(.var 2), (.cst .non)]) (.cst (.str [115, 99, 114, 105, 112, 116])))), (.not (.lamR (.call 134 [(.cst .non), (.cst .non)]) (.cst (.str [115, 99, 104, 101, 109, 97]))))])
    [(.ret (.cst (.bl false)))]
    []), (.ife (.not (.lamR (.call 135 [(.var 2), (.tup [(.tup [(.cst (.str [100, 114, 111, 112])), (.cst (.str [110, 111, 98, 111, 100, 121]))])]), (.cst .non)]) (.cst (.str [115, 99, 114, 105, 112, 116]))))
    [(.ret (.cst (.bl false)))]
    [])]),
   (.asg 2 (.tup [(.tup [(.cst (.str [112, 101, 116, 115])), (.tup [(.tup [(.cst (.str [97, 103, 101])), (.cst (.str [116, 101, 120, 116])), (.cst (.bl false)), (.cst (.bl false))])])])])),
   (.asg 3 (.tup [(.tup [(.cst (.str [99, 111, 110, 118, 101, 114, 116])), (.cst (.str [112, 101, 116, 115])), (.cst (.str [97, 103, 101])), (.cst (.str [105, 110, 116]))]), (.tup [(.cst (.str [99, 111, 110, 118, 101, 114, 116])), (.cst (.str [112, 101, 116, 115])), (.cst (.str [97, 103, 101])), (.cst (.str [116, 101, 120, 116]))]), (.tup [(.cst (.str [99, 111, 110, 118, 101, 114, 116])), (.cst (.str [112, 101, 116, 115])), (.cst (.str [97, 103, 101])), (.cst (.str [105, 110, 116]))])])),
   (.ret (.and [(.cmp .eq (.call 134 [(.var 2), (.var 3)]) (.frz (.disp [(.cst (.int 0)), (.cst (.int 1))]))), (.cmp .is (.call 135 [(.var 2), (.var 3), (.cst (.int 0))]) (.cst (.bl true)))]))]
def D141 : Def := ⟨1, 12, b141, false⟩
/-- law(script); 0 script, 1 k, 2 schema, 3 source, 4 turn, 5 plan, 6 names, 7 value, 8 place, 9 row, 10 name, 11 columns, 12 goes, 13 kept, 14 data, 15 column, 16 pair, 17 at -/
def b147 : List S :=
  [(.for (.name 1) (.rng (.cst (.int 0)) (.bi .max [(.cst (.int 1)), (.bi .min [(.cst (.int 6)), (.bi .len [(.var 0)])])]))
    [(.asg 3 (.call 11 [(.var 0), (.var 1)])), (.for (.name 4) (.rng (.cst (.int 0)) (.cst (.int 4)))
    [(.asg 2 (.call 129 [(.var 3)])), (.asg 5 (.call 89 [(.var 3), (.var 2), (.cst (.int 7))])), (.asgT (.tup [(.name 12), (.name 13)]) (.call 146 [(.var 2), (.var 5)])), (.ife (.or [(.not (.call 19 [(.call 143 [(.var 2), (.var 5), (.cst (.str [116]))]), (.var 12)])), (.cmp .ne (.call 145 [(.var 2), (.var 5)]) (.var 13))])
    [(.ret (.cst (.bl false)))]
    [])]), (.asg 2 (.call 38 [(.var 3), (.cst (.int 3)), (.cst (.int 4))])), (.asg 5 (.call 89 [(.var 3), (.var 2), (.cst (.int 7))])), (.for (.tup [(.name 8), (.tup [(.name 10), (.name 11)])]) (.enum (.var 2))
    [(.for (.name 9) (.val (.call 41 [(.var 3), (.var 11), (.cst (.int 5))]))
    [(.asg 14 (.bi .tuple [(.frz (.comp [17] (.ife (.cmp .eq (.var 17) (.var 8)) (.tup [(.var 9)]) (.tup [])) (.name 17) (.rng (.cst (.int 0)) (.bi .len [(.var 2)])) []))])), (.ife (.and [(.cmp .is (.sub (.call 90 [(.var 2), (.var 5), (.var 14)]) (.cst (.int 2))) (.cst .non)), (.cmp .isn (.call 143 [(.var 2), (.var 5), (.var 10)]) (.cst (.bl true)))])
    [(.ret (.cst (.bl false)))]
    [])])]), (.asg 6 (.frz (.disp []))), (.for (.tup [(.name 10), (.name 11)]) (.val (.var 2))
    [(.asg 6 (.bin .add (.var 6) (.frz (.comp [15] (.tup [(.var 10), (.sub (.var 15) (.cst (.int 0)))]) (.name 15) (.val (.var 11)) []))))]), (.ife (.or [(.cmp .ne (.frz (.comp [16] (.cst (.int 1)) (.name 16) (.val (.call 145 [(.var 2), (.var 5)])) [(.cmp .nin (.var 16) (.var 6))])) (.frz (.disp []))), (.cmp .ne (.call 145 [(.var 2), (.tup [])]) (.var 6))])
    [(.ret (.cst (.bl false)))]
    []), (.for (.name 7) (.val (.frz (.disp [(.cst .non), (.cst (.str [110, 111, 98, 111, 100, 121])), (.cst (.str [])), (.cst (.int 1)), (.tup [(.cst (.str [116]))])])))
    [(.ife (.not (.lamR (.call 143 [(.var 2), (.var 5), (.var 7)]) (.cst (.str [116, 97, 98, 108, 101]))))
    [(.ret (.cst (.bl false)))]
    [])]), (.ife (.not (.lamR (.call 145 [(.var 2), (.cst .non)]) (.cst (.str [115, 99, 114, 105, 112, 116]))))
    [(.ret (.cst (.bl false)))]
    [])]),
   (.asg 2 (.tup [(.tup [(.cst (.str [112, 101, 116, 115])), (.tup [(.tup [(.cst (.str [97, 103, 101])), (.cst (.str [116, 101, 120, 116])), (.cst (.bl false)), (.cst (.bl false))]), (.tup [(.cst (.str [110, 97, 109, 101])), (.cst (.str [116, 101, 120, 116])), (.cst (.bl true)), (.cst (.bl true))])])])])),
   (.ret (.cmp .eq (.call 145 [(.var 2), (.tup [(.tup [(.cst (.str [114, 101, 112, 108, 97, 99, 101])), (.cst (.str [112, 101, 116, 115])), (.cst (.str [97, 103, 101])), (.cst .non), (.cst (.str [48]))])])]) (.frz (.disp [(.tup [(.cst (.str [112, 101, 116, 115])), (.cst (.str [110, 97, 109, 101]))])]))))]
def D147 : Def := ⟨1, 18, b147, false⟩
/-- lost_data(schema, script); 0 schema, 1 script -/
def b149 : List S :=
  [(.expr (.call 63 [(.var 0), (.var 1)])),
   (.ret (.call 148 [(.var 0), (.var 1)]))]
def D149 : Def := ⟨2, 2, b149, false⟩
/-- _law_careful(source, schema, most); 0 source, 1 schema, 2 most, 3 step -/
def b155 : List S :=
  [(.ret (.bi .tuple [(.frz (.comp [3] (.var 3) (.name 3) (.val (.call 89 [(.var 0), (.var 1), (.var 2)])) [(.cmp .nin (.sub (.var 3) (.cst (.int 0))) (.tup [(.cst (.str [114, 101, 109, 111, 118, 101])), (.cst (.str [100, 114, 111, 112])), (.cst (.str [114, 101, 112, 108, 97, 99, 101]))]))]))]))]
def D155 : Def := ⟨3, 4, b155, false⟩
/-- law(script); 0 script, 1 k, 2 schema, 3 plan, 4 source, 5 turn, 6 empty, 7 turn_so, 8 value, 9 data, 10 other, 11 found, 12 later, 13 result, 14 number, 15 again -/
def b156 : List S :=
  [(.for (.name 1) (.rng (.cst (.int 0)) (.bi .max [(.cst (.int 1)), (.bi .min [(.cst (.int 6)), (.bi .len [(.var 0)])])]))
    [(.asg 4 (.call 11 [(.var 0), (.var 1)])), (.for (.name 5) (.rng (.cst (.int 0)) (.cst (.int 4)))
    [(.asg 2 (.call 38 [(.var 4), (.cst (.int 2)), (.cst (.int 3))])), (.asg 3 (.call 13 [(.var 4), (.frz (.disp [(.call 155 [(.var 4), (.var 2), (.cst (.int 7))]), (.call 89 [(.var 4), (.var 2), (.cst (.int 3))])]))])), (.asg 3 (.ife (.call 64 [(.var 2), (.var 3)]) (.var 3) (.tup []))), (.asg 6 (.sub (.call 90 [(.var 2), (.var 3), (.call 67 [(.var 2)])]) (.cst (.int 0)))), (.ife (.cmp .isn (.call 149 [(.var 2), (.var 3)]) (.cst .non))
    [(.ife (.not (.lamR (.call 154 [(.var 2), (.var 3), (.cst .non)]) (.cst (.str [108, 111, 115, 101, 115]))))
    [(.ret (.cst (.bl false)))]
    [])]
    [(.for (.name 7) (.rng (.cst (.int 0)) (.cst (.int 4)))
    [(.asg 9 (.call 42 [(.var 4), (.var 2), (.cst (.int 5))])), (.asgT (.tup [(.name 12), (.name 13), (.name 14)]) (.call 90 [(.var 2), (.var 3), (.var 9)])), (.ife (.cmp .is (.var 14) (.cst .non))
    [(.ife (.not (.call 91 [(.call 154 [(.var 2), (.var 3), (.var 13)]), (.var 9)]))
    [(.ret (.cst (.bl false)))]
    [])]
    []), (.asg 10 (.call 42 [(.var 4), (.var 6), (.cst (.int 2))])), (.asg 11 (.call 154 [(.var 2), (.var 3), (.var 10)])), (.ife (.cmp .isn (.var 11) (.cst .non))
    [(.asg 15 (.sub (.call 90 [(.var 2), (.var 3), (.var 11)]) (.cst (.int 1)))), (.ife (.or [(.not (.call 36 [(.var 2), (.var 11)])), (.not (.call 91 [(.var 15), (.var 10)]))])
    [(.ret (.cst (.bl false)))]
    [])]
    [])]), (.for (.name 8) (.val (.frz (.disp [(.cst .non), (.frz (.disp [])), (.bin .mul (.tup [(.tup [])]) (.cst (.int 9)))])))
    [(.ife (.not (.lamR (.call 154 [(.var 2), (.var 3), (.var 8)]) (.cst (.str [100, 97, 116, 97]))))
    [(.ret (.cst (.bl false)))]
    [])])])]), (.ife (.not (.lamR (.call 154 [(.var 2), (.tup [(.tup [(.cst (.str [100, 114, 111, 112])), (.cst (.str [110, 111, 98, 111, 100, 121]))])]), (.cst .non)]) (.cst (.str [115, 99, 114, 105, 112, 116]))))
    [(.ret (.cst (.bl false)))]
    [])]),
   (.asg 2 (.tup [(.tup [(.cst (.str [112, 101, 116, 115])), (.tup [(.tup [(.cst (.str [97, 103, 101])), (.cst (.str [116, 101, 120, 116])), (.cst (.bl false)), (.cst (.bl false))])])])])),
   (.asg 3 (.tup [(.tup [(.cst (.str [99, 111, 110, 118, 101, 114, 116])), (.cst (.str [112, 101, 116, 115])), (.cst (.str [97, 103, 101])), (.cst (.str [105, 110, 116]))]), (.tup [(.cst (.str [99, 114, 101, 97, 116, 101])), (.cst (.str [110, 101, 119])), (.tup [])])])),
   (.ife (.cmp .ne (.call 154 [(.var 2), (.var 3), (.tup [(.tup []), (.tup [(.tup [(.cst (.int 7))]), (.tup [(.cst .non)])])])]) (.tup [(.tup [(.tup [(.cst (.str [55]))]), (.tup [(.cst .non)])])]))
    [(.ret (.cst (.bl false)))]
    []),
   (.ret (.and [(.cmp .is (.call 154 [(.var 2), (.var 3), (.tup [(.tup [(.tup [])]), (.tup [])])]) (.cst .non)), (.cmp .eq (.call 154 [(.var 2), (.tup []), (.tup [(.tup [])])]) (.tup [(.tup [])]))]))]
def D156 : Def := ⟨1, 16, b156, false⟩
/-- are_names(value); 0 value, 1 one -/
def b157 : List S :=
  [(.ife (.or [(.not (.isi (.var 0) .tup)), (.cmp .gt (.bi .len [(.var 0)]) (.cst (.int 8)))])
    [(.ret (.cst (.bl false)))]
    []),
   (.ret (.and [(.bi .all [(.frz (.comp [1] (.call 25 [(.var 1)]) (.name 1) (.val (.var 0)) []))]), (.call 27 [(.var 0)])]))]
def D157 : Def := ⟨1, 2, b157, false⟩
/-- need_both(names, wished); 0 names, 1 wished -/
def b159 : List S :=
  [(.ife (.not (.call 157 [(.var 0)]))
    [(.raise 10)]
    []),
   (.ife (.not (.call 158 [(.var 0), (.var 1)]))
    [(.raise 11)]
    [])]
def D159 : Def := ⟨2, 2, b159, false⟩
/-- steps_for(names, wished); 0 names, 1 wished, 2 kept, 3 olds, 4 found, 5 name, 6 new, 7 old, 8 pair -/
def b160 : List S :=
  [(.asg 2 (.frz (.comp [6, 7] (.tup [(.var 7), (.var 6)]) (.tup [(.name 6), (.name 7)]) (.val (.var 1)) [(.cmp .isn (.var 7) (.cst .non))]))),
   (.asg 3 (.frz (.comp [7, 6] (.var 7) (.tup [(.name 7), (.name 6)]) (.val (.var 2)) []))),
   (.asg 4 (.frz (.comp [5] (.tup [(.cst (.str [114, 101, 109, 111, 118, 101])), (.var 5)]) (.name 5) (.val (.var 0)) [(.cmp .nin (.var 5) (.var 3))]))),
   (.asg 4 (.bin .add (.var 4) (.frz (.comp [8] (.bin .add (.tup [(.cst (.str [114, 101, 108, 97, 98, 101, 108]))]) (.var 8)) (.name 8) (.val (.call 104 [(.var 2)])) [])))),
   (.ret (.bi .tuple [(.bin .add (.var 4) (.frz (.comp [6, 7] (.tup [(.cst (.str [97, 100, 100])), (.var 6)]) (.tup [(.name 6), (.name 7)]) (.val (.var 1)) [(.cmp .is (.var 7) (.cst .non))])))]))]
def D160 : Def := ⟨2, 9, b160, false⟩
/-- fewest_steps(names, wished); 0 names, 1 wished -/
def b161 : List S :=
  [(.expr (.call 159 [(.var 0), (.var 1)])),
   (.ret (.bi .len [(.call 160 [(.var 0), (.var 1)])]))]
def D161 : Def := ⟨2, 2, b161, false⟩
/-- law(script); 0 script, 1 k, 2 source, 3 names, 4 turn, 5 few, 6 wished, 7 value, 8 olds, 9 due, 10 name, 11 old -/
def b165 : List S :=
  [(.for (.name 1) (.rng (.cst (.int 0)) (.bi .max [(.cst (.int 1)), (.bi .min [(.cst (.int 6)), (.bi .len [(.var 0)])])]))
    [(.asg 2 (.call 11 [(.var 0), (.var 1)])), (.asg 3 (.bi .tuple [(.slc (.frz (.disp [(.cst (.str [97])), (.cst (.str [98])), (.cst (.str [99])), (.cst (.str [100])), (.cst (.str [101])), (.cst (.str [102])), (.cst (.str [103])), (.cst (.str [104]))])) [] [(.call 12 [(.var 2), (.cst (.int 9))])])])), (.for (.name 4) (.rng (.cst (.int 0)) (.cst (.int 4)))
    [(.asg 6 (.call 162 [(.var 2), (.var 3)])), (.asg 8 (.frz (.comp [10, 11] (.var 11) (.tup [(.name 10), (.name 11)]) (.val (.var 6)) [(.cmp .isn (.var 11) (.cst .non))]))), (.asg 9 (.bin .add (.bi .len [(.frz (.comp [10] (.cst (.int 1)) (.name 10) (.val (.var 3)) [(.cmp .nin (.var 10) (.var 8))]))]) (.bi .len [(.frz (.comp [10, 11] (.cst (.int 1)) (.tup [(.name 10), (.name 11)]) (.val (.var 6)) [(.cmp .is (.var 11) (.cst .non))]))]))), (.asg 9 (.bin .add (.bin .add (.var 9) (.bi .len [(.frz (.comp [10, 11] (.cst (.int 1)) (.tup [(.name 10), (.name 11)]) (.val (.var 6)) [(.and [(.cmp .isn (.var 11) (.cst .non)), (.cmp .ne (.var 11) (.var 10))])]))])) (.call 163 [(.var 6)]))), (.ife (.cmp .ne (.call 161 [(.var 3), (.var 6)]) (.var 9))
    [(.ret (.cst (.bl false)))]
    [])]), (.asg 5 (.slc (.var 3) [] [(.cst (.int 2))])), (.asg 6 (.call 162 [(.var 2), (.var 5)])), (.ife (.cmp .ne (.bi .min [(.cst (.int 4)), (.call 161 [(.var 5), (.var 6)])]) (.bi .min [(.cst (.int 4)), (.call 164 [(.var 5), (.var 6), (.cst (.int 3))])]))
    [(.ret (.cst (.bl false)))]
    []), (.for (.name 7) (.val (.frz (.disp [(.cst .non), (.frz (.listof (.var 3))), (.tup [(.cst (.str [98])), (.cst (.str [97]))]), (.tup [(.cst (.str [97])), (.cst (.str [97]))]), (.tup [(.cst (.str [65]))]), (.tup [(.cst (.str [97])), (.cst (.int 1))]), (.bi .tuple [(.cst (.str [97, 98, 99, 100, 101, 102, 103, 104, 105]))])])))
    [(.ife (.not (.lamR (.call 161 [(.var 7), (.cst .non)]) (.cst (.str [110, 97, 109, 101, 115]))))
    [(.ret (.cst (.bl false)))]
    [])]), (.for (.name 7) (.val (.frz (.disp [(.cst .non), (.frz (.disp [])), (.tup [(.tup [(.cst (.str [97])), (.cst (.str [110, 111, 98, 111, 100, 121]))])]), (.tup [(.tup [(.cst (.str [97])), (.cst .non)]), (.tup [(.cst (.str [97])), (.cst .non)])]), (.tup [(.tup [(.cst (.str [98])), (.cst .non)]), (.tup [(.cst (.str [97])), (.cst .non)])]), (.tup [(.cst (.str [97]))]), (.tup [(.tup [(.cst (.str [97]))])]), (.tup [(.tup [(.cst (.str [97])), (.cst (.int 1))])])])))
    [(.ife (.not (.lamR (.call 161 [(.var 3), (.var 7)]) (.cst (.str [119, 105, 115, 104]))))
    [(.ret (.cst (.bl false)))]
    [])]), (.ife (.not (.lamR (.call 161 [(.tup [(.cst (.str [97]))]), (.tup [(.tup [(.cst (.str [97])), (.cst (.str [97]))]), (.tup [(.cst (.str [98])), (.cst (.str [97]))])])]) (.cst (.str [119, 105, 115, 104]))))
    [(.ret (.cst (.bl false)))]
    [])]),
   (.ife (.cmp .ne (.call 161 [(.tup [(.cst (.str [97])), (.cst (.str [98])), (.cst (.str [99]))]), (.tup [(.tup [(.cst (.str [97])), (.cst (.str [98]))]), (.tup [(.cst (.str [98])), (.cst (.str [99]))]), (.tup [(.cst (.str [99])), (.cst (.str [97]))])])]) (.cst (.int 4)))
    [(.ret (.cst (.bl false)))]
    []),
   (.ret (.and [(.cmp .eq (.call 161 [(.tup [(.cst (.str [97])), (.cst (.str [98]))]), (.tup [(.tup [(.cst (.str [98])), (.cst (.str [97]))])])]) (.cst (.int 2))), (.cmp .eq (.call 161 [(.tup [(.cst (.str [97]))]), (.tup [(.tup [(.cst (.str [97])), (.cst .non)])])]) (.cst (.int 2)))]))]
def D165 : Def := ⟨1, 12, b165, false⟩
/-- shortest_steps(names, wished); 0 names, 1 wished -/
def b166 : List S :=
  [(.expr (.call 159 [(.var 0), (.var 1)])),
   (.ret (.call 160 [(.var 0), (.var 1)]))]
def D166 : Def := ⟨2, 2, b166, false⟩
/-- is_untouched(plan); 0 plan, 1 row -/
def b168 : List S :=
  [(.ret (.and [(.cmp .eq (.sub (.var 0) (.cst (.int 0))) (.sub (.var 0) (.cst (.int 1)))), (.bi .all [(.frz (.comp [1] (.cmp .eq (.var 1) (.tup [(.sub (.var 1) (.cst (.int 0))), (.tup []), (.sub (.var 1) (.cst (.int 0)))])) (.name 1) (.val (.sub (.var 0) (.cst (.int 2)))) []))])]))]
def D168 : Def := ⟨1, 2, b168, false⟩
/-- own_rows(plan); 0 plan, 1 found, 2 row -/
def b169 : List S :=
  [(.asg 1 (.mut .dict0)),
   (.for (.name 2) (.val (.sub (.var 0) (.cst (.int 2))))
    [(.ife (.and [(.isi (.sub (.var 2) (.cst (.int 0))) .str), (.cmp .nin (.sub (.var 2) (.cst (.int 0))) (.var 1))])
    [(.asgI (.var 1) (.sub (.var 2) (.cst (.int 0))) (.var 2))]
    [])]),
   (.ret (.var 1))]
def D169 : Def := ⟨1, 3, b169, false⟩
/-- more_rows(plan); 0 plan -/
def b170 : List S :=
  [(.ret (.slc (.sub (.var 0) (.cst (.int 2))) [(.bi .len [(.call 169 [(.var 0)])])] []))]
def D170 : Def := ⟨1, 1, b170, false⟩
/-- parted(name, one, other); 0 name, 1 one, 2 other -/
def b171 : List S :=
  [(.ret (.and [(.cmp .ne (.var 1) (.var 2)), (.cmp .nin (.var 0) (.tup [(.var 1), (.var 2)]))]))]
def D171 : Def := ⟨3, 3, b171, false⟩
/-- table_in_conflict(one, other); 0 one, 1 other -/
def b173 : List S :=
  [(.ife (.and [(.cmp .is (.sub (.var 0) (.cst (.int 1))) (.cst .non)), (.cmp .is (.sub (.var 1) (.cst (.int 1))) (.cst .non))])
    [(.ret (.cmp .ne (.sub (.var 0) (.cst (.int 2))) (.sub (.var 1) (.cst (.int 2)))))]
    []),
   (.ife (.or [(.cmp .is (.sub (.var 0) (.cst (.int 1))) (.cst .non)), (.cmp .is (.sub (.var 1) (.cst (.int 1))) (.cst .non))])
    [(.ret (.not (.call 168 [(.ife (.cmp .is (.sub (.var 0) (.cst (.int 1))) (.cst .non)) (.var 1) (.var 0))])))]
    []),
   (.ret (.call 171 [(.sub (.var 0) (.cst (.int 0))), (.sub (.var 0) (.cst (.int 1))), (.sub (.var 1) (.cst (.int 1)))]))]
def D173 : Def := ⟨2, 2, b173, false⟩
/-- united(first, second); 0 first, 1 second, 2 found, 3 item -/
def b174 : List S :=
  [(.asg 2 (.mut (.disp []))),
   (.for (.name 3) (.val (.bin .add (.frz (.listof (.var 0))) (.frz (.listof (.var 1)))))
    [(.ife (.cmp .nin (.var 3) (.var 2))
    [(.expr (.meth (.var 2) 1 [(.var 3)]))]
    [])]),
   (.ret (.var 2))]
def D174 : Def := ⟨2, 4, b174, false⟩
/-- conflicts(schema, one, other); 0 schema, 1 one, 2 other -/
def b178 : List S :=
  [(.expr (.call 121 [(.var 0), (.var 1), (.var 2)])),
   (.ret (.sub (.call 177 [(.var 0), (.var 1), (.var 2)]) (.cst (.int 0))))]
def D178 : Def := ⟨3, 3, b178, false⟩
/-- merged(schema, one, other); 0 schema, 1 one, 2 other, 3 found, 4 plans, 5 created, 6 plan -/
def b179 : List S :=
  [(.expr (.call 121 [(.var 0), (.var 1), (.var 2)])),
   (.asgT (.tup [(.name 3), (.name 4), (.name 5)]) (.call 177 [(.var 0), (.var 1), (.var 2)])),
   (.ife (.cmp .ne (.var 3) (.frz (.disp [])))
    [(.raise 16)]
    []),
   (.ife (.cmp .gt (.bin .add (.bi .len [(.frz (.comp [6] (.var 6) (.name 6) (.val (.var 4)) [(.cmp .isn (.sub (.var 6) (.cst (.int 1))) (.cst .non))]))]) (.bi .len [(.var 5)])) (.cst (.int 6)))
    [(.raise 17)]
    []),
   (.ret (.call 108 [(.var 4), (.var 5)]))]
def D179 : Def := ⟨3, 7, b179, false⟩
/-- _law_untouched(plan); 0 plan, 1 row -/
def b180 : List S :=
  [(.ret (.and [(.cmp .eq (.sub (.var 0) (.cst (.int 0))) (.sub (.var 0) (.cst (.int 1)))), (.cmp .eq (.frz (.comp [1] (.var 1) (.name 1) (.val (.sub (.var 0) (.cst (.int 2)))) [(.cmp .ne (.var 1) (.tup [(.sub (.var 1) (.cst (.int 0))), (.tup []), (.sub (.var 1) (.cst (.int 0)))]))])) (.frz (.disp [])))]))]
def D180 : Def := ⟨1, 2, b180, false⟩
/-- _law_main(plan, columns); 0 plan, 1 columns, 2 many -/
def b181 : List S :=
  [(.asg 2 (.bi .len [(.var 1)])),
   (.ret (.tup [(.frz (.listof (.slc (.sub (.var 0) (.cst (.int 2))) [] [(.var 2)]))), (.frz (.listof (.slc (.sub (.var 0) (.cst (.int 2))) [(.var 2)] [])))]))]
def D181 : Def := ⟨2, 3, b181, false⟩
/-- _law_clash(one, two); 0 one, 1 two -/
def b182 : List S :=
  [(.ife (.and [(.cmp .ne (.sub (.var 0) (.cst (.int 1))) (.tup [])), (.cmp .ne (.sub (.var 1) (.cst (.int 1))) (.tup [])), (.cmp .ne (.sub (.var 0) (.cst (.int 1))) (.sub (.var 1) (.cst (.int 1))))])
    [(.ret (.cst (.bl true)))]
    []),
   (.ife (.and [(.cmp .ne (.sub (.var 0) (.cst (.int 2))) (.sub (.var 1) (.cst (.int 2)))), (.cmp .nin (.sub (.var 0) (.cst (.int 0))) (.tup [(.sub (.var 0) (.cst (.int 2))), (.sub (.var 1) (.cst (.int 2)))]))])
    [(.ret (.cst (.bl true)))]
    []),
   (.ret (.or [(.and [(.cmp .is (.sub (.var 0) (.cst (.int 2))) (.cst .non)), (.cmp .isn (.sub (.var 1) (.cst (.int 2))) (.cst .non)), (.cmp .ne (.sub (.var 1) (.cst (.int 1))) (.tup []))]), (.and [(.cmp .is (.sub (.var 1) (.cst (.int 2))) (.cst .non)), (.cmp .isn (.sub (.var 0) (.cst (.int 2))) (.cst .non)), (.cmp .ne (.sub (.var 0) (.cst (.int 1))) (.tup []))])]))]
def D182 : Def := ⟨2, 2, b182, false⟩
/-- law(script); 0 script, 1 k, 2 schema, 3 source, 4 turn, 5 value, 6 one, 7 two, 8 found, 9 told, 10 due, 11 plans, 12 created -/
def b188 : List S :=
  [(.for (.name 1) (.rng (.cst (.int 0)) (.bi .max [(.cst (.int 1)), (.bi .min [(.cst (.int 8)), (.bi .len [(.var 0)])])]))
    [(.asg 3 (.call 11 [(.var 0), (.var 1)])), (.for (.name 4) (.rng (.cst (.int 0)) (.cst (.int 5)))
    [(.asg 2 (.call 38 [(.var 3), (.cst (.int 2)), (.cst (.int 4))])), (.asg 6 (.call 89 [(.var 3), (.var 2), (.sub (.frz (.disp [(.cst (.int 2)), (.cst (.int 5))])) (.bin .mod (.var 4) (.cst (.int 2))))])), (.asg 7 (.call 13 [(.var 3), (.frz (.disp [(.call 89 [(.var 3), (.var 2), (.cst (.int 3))]), (.slc (.var 6) [] [(.call 12 [(.var 3), (.cst (.int 3))])]), (.var 6)]))])), (.asgT (.tup [(.name 10), (.name 11), (.name 12)]) (.call 187 [(.var 2), (.var 6), (.var 7)])), (.asg 8 (.call 178 [(.var 2), (.var 6), (.var 7)])), (.ife (.or [(.cmp .ne (.var 8) (.var 10)), (.not (.isi (.var 8) .lst)), (.cmp .ne (.call 178 [(.var 2), (.var 7), (.var 6)]) (.var 10))])
    [(.ret (.cst (.bl false)))]
    []), (.asg 9 (.lam (.call 179 [(.var 2), (.var 6), (.var 7)]))), (.ife (.cmp .ne (.cmp .eq (.var 9) (.tup [(.cst (.str [101, 114, 114, 111, 114])), (.cst (.str [99, 111, 110, 102, 108, 105, 99, 116, 32, 98, 97, 115, 101])), (.cst .non)])) (.cmp .ne (.var 10) (.frz (.disp []))))
    [(.ret (.cst (.bl false)))]
    [])]), (.for (.name 5) (.val (.frz (.disp [(.cst .non), (.tup [(.tup [(.cst (.str [100, 114, 111, 112])), (.cst (.str [110, 111, 98, 111, 100, 121]))])]), (.frz (.disp [(.tup [])]))])))
    [(.ife (.not (.lamR (.call 178 [(.var 2), (.var 5), (.cst .non)]) (.cst (.str [115, 99, 114, 105, 112, 116]))))
    [(.ret (.cst (.bl false)))]
    []), (.ife (.or [(.not (.lamR (.call 178 [(.var 2), (.tup []), (.var 5)]) (.cst (.str [115, 99, 114, 105, 112, 116])))), (.not (.lamR (.call 179 [(.var 2), (.var 5), (.cst .non)]) (.cst (.str [115, 99, 114, 105, 112, 116]))))])
    [(.ret (.cst (.bl false)))]
    [])]), (.ife (.not (.lamR (.call 178 [(.cst .non), (.cst .non), (.cst .non)]) (.cst (.str [115, 99, 104, 101, 109, 97]))))
    [(.ret (.cst (.bl false)))]
    [])]),
   (.asg 2 (.tup [(.tup [(.cst (.str [116])), (.tup [(.tup [(.cst (.str [97])), (.cst (.str [105, 110, 116])), (.cst (.bl false)), (.cst (.bl false))]), (.tup [(.cst (.str [98])), (.cst (.str [116, 101, 120, 116])), (.cst (.bl false)), (.cst (.bl false))])])])])),
   (.ife (.cmp .ne (.call 178 [(.var 2), (.tup [(.tup [(.cst (.str [114, 101, 109, 111, 118, 101])), (.cst (.str [116])), (.cst (.str [97]))])]), (.tup [(.tup [(.cst (.str [114, 101, 108, 97, 98, 101, 108])), (.cst (.str [116])), (.cst (.str [97])), (.cst (.str [99]))])])]) (.frz (.disp [(.tup [(.cst (.str [99, 111, 108, 117, 109, 110])), (.cst (.str [116])), (.cst (.str [97]))])])))
    [(.ret (.cst (.bl false)))]
    []),
   (.ife (.cmp .ne (.call 178 [(.var 2), (.tup [(.tup [(.cst (.str [114, 101, 108, 97, 98, 101, 108])), (.cst (.str [116])), (.cst (.str [97])), (.cst (.str [99]))])]), (.tup [(.tup [(.cst (.str [97, 100, 100])), (.cst (.str [116])), (.cst (.str [99])), (.cst (.str [105, 110, 116])), (.cst (.int 1))])])]) (.frz (.disp [(.tup [(.cst (.str [110, 97, 109, 101])), (.cst (.str [116])), (.cst (.str [99]))])])))
    [(.ret (.cst (.bl false)))]
    []),
   (.ret (.cmp .eq (.call 178 [(.var 2), (.tup [(.tup [(.cst (.str [100, 114, 111, 112])), (.cst (.str [116]))])]), (.tup [(.tup [(.cst (.str [114, 101, 113, 117, 105, 114, 101])), (.cst (.str [116])), (.cst (.str [98]))])])]) (.frz (.disp [(.tup [(.cst (.str [116, 97, 98, 108, 101])), (.cst (.str [116]))])]))))]
def D188 : Def := ⟨1, 13, b188, false⟩
/-- _law_merged_right(source, schema, one, two); 0 source, 1 schema, 2 one, 3 two, 4 plans, 5 created, 6 found, 7 tables, 8 data, 9 later, 10 told, 11 turn, 12 plan -/
def b189 : List S :=
  [(.ife (.cmp .ne (.call 178 [(.var 1), (.var 2), (.var 3)]) (.frz (.disp [])))
    [(.ret (.cst (.bl true)))]
    []),
   (.asg 4 (.call 185 [(.var 1), (.call 94 [(.var 1), (.var 2)]), (.call 94 [(.var 1), (.var 3)])])),
   (.asg 5 (.call 184 [(.call 100 [(.var 1), (.var 2)]), (.call 100 [(.var 1), (.var 3)])])),
   (.asg 6 (.lam (.call 179 [(.var 1), (.var 2), (.var 3)]))),
   (.asg 7 (.bin .add (.bi .len [(.frz (.comp [12] (.cst (.int 1)) (.name 12) (.val (.var 4)) [(.cmp .isn (.sub (.var 12) (.cst (.int 1))) (.cst .non))]))]) (.bi .len [(.var 5)]))),
   (.ife (.or [(.cmp .gt (.var 7) (.cst (.int 6))), (.cmp .ne (.frz (.comp [12] (.cst (.int 1)) (.name 12) (.val (.var 4)) [(.cmp .gt (.bi .len [(.sub (.var 12) (.cst (.int 2)))]) (.cst (.int 8)))])) (.frz (.disp [])))])
    [(.ret (.cmp .eq (.var 6) (.tup [(.cst (.str [101, 114, 114, 111, 114])), (.cst (.str [109, 97, 110, 121, 32, 98, 97, 115, 101])), (.cst .non)])))]
    []),
   (.ife (.or [(.cmp .ne (.sub (.var 6) (.cst (.int 0))) (.cst (.str [118, 97, 108, 117, 101]))), (.not (.call 64 [(.var 1), (.sub (.var 6) (.cst (.int 1)))]))])
    [(.ret (.cst (.bl false)))]
    []),
   (.for (.name 8) (.val (.bin .add (.frz (.disp [(.call 67 [(.var 1)])])) (.frz (.comp [11] (.call 42 [(.var 0), (.var 1), (.cst (.int 4))]) (.name 11) (.rng (.cst (.int 0)) (.cst (.int 6))) []))))
    [(.asg 9 (.call 99 [(.var 1), (.var 4), (.var 5), (.var 8)])), (.asg 10 (.lam (.call 87 [(.var 1), (.sub (.var 6) (.cst (.int 1))), (.var 8)]))), (.ife (.or [(.and [(.cmp .is (.sub (.var 9) (.cst (.int 0))) (.cst .non)), (.cmp .ne (.sub (.var 10) (.cst (.int 0))) (.cst (.str [101, 114, 114, 111, 114])))]), (.and [(.cmp .isn (.sub (.var 9) (.cst (.int 0))) (.cst .non)), (.not (.call 91 [(.var 10), (.tup [(.cst (.str [118, 97, 108, 117, 101])), (.sub (.var 9) (.cst (.int 1)))])]))])])
    [(.ret (.cst (.bl false)))]
    []), (.ife (.and [(.cmp .isn (.sub (.var 9) (.cst (.int 0))) (.cst .non)), (.cmp .ne (.call 65 [(.var 1), (.sub (.var 6) (.cst (.int 1)))]) (.sub (.var 9) (.cst (.int 0))))])
    [(.ret (.cst (.bl false)))]
    [])]),
   (.ret (.cst (.bl true)))]
def D189 : Def := ⟨4, 13, b189, false⟩
/-- law(script); 0 script, 1 k, 2 schema, 3 source, 4 turn, 5 one, 6 two, 7 first, 8 second -/
def b190 : List S :=
  [(.for (.name 1) (.rng (.cst (.int 0)) (.bi .max [(.cst (.int 1)), (.bi .min [(.cst (.int 6)), (.bi .len [(.var 0)])])]))
    [(.asg 3 (.call 11 [(.var 0), (.var 1)])), (.for (.name 4) (.rng (.cst (.int 0)) (.cst (.int 4)))
    [(.asg 2 (.call 38 [(.var 3), (.cst (.int 2)), (.cst (.int 3))])), (.asgT (.tup [(.name 5), (.name 6)]) (.tup [(.call 89 [(.var 3), (.var 2), (.cst (.int 3))]), (.call 89 [(.var 3), (.var 2), (.sub (.frz (.disp [(.cst (.int 1)), (.cst (.int 3))])) (.bin .mod (.var 4) (.cst (.int 2))))])])), (.ife (.or [(.not (.call 189 [(.var 3), (.var 2), (.var 5), (.var 6)])), (.not (.call 189 [(.var 3), (.var 2), (.var 5), (.tup [])]))])
    [(.ret (.cst (.bl false)))]
    []), (.ife (.and [(.cmp .eq (.call 178 [(.var 2), (.var 5), (.var 6)]) (.frz (.disp []))), (.cmp .lt (.var 4) (.cst (.int 2)))])
    [(.asgT (.tup [(.name 7), (.name 8)]) (.tup [(.lam (.call 179 [(.var 2), (.var 5), (.var 6)])), (.lam (.call 179 [(.var 2), (.var 6), (.var 5)]))])), (.ife (.or [(.cmp .ne (.sub (.var 7) (.cst (.int 0))) (.sub (.var 8) (.cst (.int 0)))), (.and [(.cmp .eq (.sub (.var 7) (.cst (.int 0))) (.cst (.str [118, 97, 108, 117, 101]))), (.cmp .isn (.call 122 [(.var 2), (.sub (.var 7) (.cst (.int 1))), (.sub (.var 8) (.cst (.int 1)))]) (.cst (.bl true)))])])
    [(.ret (.cst (.bl false)))]
    [])]
    [])]), (.ife (.or [(.cmp .isn (.call 122 [(.var 2), (.call 179 [(.var 2), (.var 5), (.var 5)]), (.var 5)]) (.cst (.bl true))), (.cmp .isn (.call 122 [(.var 2), (.call 179 [(.var 2), (.tup []), (.var 5)]), (.var 5)]) (.cst (.bl true)))])
    [(.ret (.cst (.bl false)))]
    [])]),
   (.asg 2 (.tup [(.tup [(.cst (.str [116])), (.tup [(.tup [(.cst (.str [97])), (.cst (.str [105, 110, 116])), (.cst (.bl false)), (.cst (.bl false))]), (.tup [(.cst (.str [98])), (.cst (.str [116, 101, 120, 116])), (.cst (.bl false)), (.cst (.bl false))])])])])),
   (.asgT (.tup [(.name 5), (.name 6)]) (.tup [(.tup [(.tup [(.cst (.str [114, 101, 108, 97, 98, 101, 108])), (.cst (.str [116])), (.cst (.str [97])), (.cst (.str [99]))]), (.tup [(.cst (.str [114, 101, 110, 97, 109, 101])), (.cst (.str [116])), (.cst (.str [117]))])]), (.tup [(.tup [(.cst (.str [99, 111, 110, 118, 101, 114, 116])), (.cst (.str [116])), (.cst (.str [97])), (.cst (.str [116, 101, 120, 116]))]), (.tup [(.cst (.str [114, 101, 109, 111, 118, 101])), (.cst (.str [116])), (.cst (.str [98]))])])])),
   (.ret (.cmp .is (.call 122 [(.var 2), (.call 179 [(.var 2), (.var 5), (.var 6)]), (.bin .add (.var 6) (.var 5))]) (.cst (.bl true))))]
def D190 : Def := ⟨1, 9, b190, false⟩
/-- _law_for(source, schema, name, most); 0 source, 1 schema, 2 name, 3 most, 4 turn, 5 box, 6 found, 7 step -/
def b191 : List S :=
  [(.asgT (.tup [(.name 5), (.name 6)]) (.tup [(.call 66 [(.var 1), (.call 67 [(.var 1)])]), (.tup [])])),
   (.for (.name 4) (.rng (.cst (.int 0)) (.var 3))
    [(.asg 7 (.call 88 [(.var 0), (.var 5), (.var 2)])), (.ife (.cmp .nin (.sub (.var 7) (.cst (.int 0))) (.tup [(.cst (.str [100, 114, 111, 112])), (.cst (.str [114, 101, 110, 97, 109, 101]))]))
    [(.asg 6 (.bin .add (.var 6) (.tup [(.var 7)]))), (.asg 5 (.call 72 [(.var 5), (.var 7)]))]
    [])]),
   (.ret (.var 6))]
def D191 : Def := ⟨4, 8, b191, false⟩
/-- law(script); 0 script, 1 k, 2 source, 3 schema, 4 whole, 5 turn, 6 one, 7 two, 8 data, 9 fails, 10 plan -/
def b192 : List S :=
  [(.for (.name 1) (.rng (.cst (.int 0)) (.bi .max [(.cst (.int 1)), (.bi .min [(.cst (.int 6)), (.bi .len [(.var 0)])])]))
    [(.asg 2 (.call 11 [(.var 0), (.var 1)])), (.asg 3 (.tup [(.tup [(.cst (.str [99, 97, 116, 115])), (.call 37 [(.var 2), (.cst (.int 3))])]), (.tup [(.cst (.str [100, 111, 103, 115])), (.call 37 [(.var 2), (.cst (.int 3))])])])), (.asgT (.tup [(.name 6), (.name 7)]) (.tup [(.call 191 [(.var 2), (.var 3), (.cst (.str [99, 97, 116, 115])), (.cst (.int 3))]), (.call 191 [(.var 2), (.var 3), (.cst (.str [100, 111, 103, 115])), (.cst (.int 3))])])), (.ife (.cmp .ne (.call 178 [(.var 3), (.var 6), (.var 7)]) (.frz (.disp [])))
    [(.ret (.cst (.bl false)))]
    []), (.asg 4 (.call 179 [(.var 3), (.var 6), (.var 7)])), (.ife (.or [(.cmp .isn (.call 122 [(.var 3), (.var 4), (.bin .add (.var 6) (.var 7))]) (.cst (.bl true))), (.cmp .isn (.call 122 [(.var 3), (.bin .add (.var 6) (.var 7)), (.bin .add (.var 7) (.var 6))]) (.cst (.bl true)))])
    [(.ret (.cst (.bl false)))]
    []), (.for (.name 5) (.rng (.cst (.int 0)) (.cst (.int 4)))
    [(.asg 8 (.call 42 [(.var 2), (.var 3), (.cst (.int 4))])), (.asg 9 (.frz (.comp [10] (.cmp .eq (.sub (.lam (.call 87 [(.var 3), (.var 10), (.var 8)])) (.cst (.int 0))) (.cst (.str [101, 114, 114, 111, 114]))) (.name 10) (.val (.frz (.disp [(.var 6), (.var 7)]))) []))), (.ife (.cmp .ne (.cmp .eq (.sub (.lam (.call 87 [(.var 3), (.var 4), (.var 8)])) (.cst (.int 0))) (.cst (.str [101, 114, 114, 111, 114]))) (.cmp .isin (.cst (.bl true)) (.var 9)))
    [(.ret (.cst (.bl false)))]
    [])])]),
   (.ret (.cst (.bl true)))]
def D192 : Def := ⟨1, 11, b192, false⟩
/-- is_use(value); 0 value, 1 one -/
def b193 : List S :=
  [(.ife (.or [(.not (.isi (.var 0) .tup)), (.cmp .nin (.bi .len [(.var 0)]) (.tup [(.cst (.int 3)), (.cst (.int 4))])), (.not (.call 25 [(.sub (.var 0) (.cst (.int 1)))]))])
    [(.ret (.cst (.bl false)))]
    []),
   (.ife (.cmp .eq (.bi .len [(.var 0)]) (.cst (.int 4)))
    [(.ret (.and [(.isi (.sub (.var 0) (.cst (.int 0))) .str), (.cmp .eq (.sub (.var 0) (.cst (.int 0))) (.cst (.str [114, 101, 97, 100]))), (.call 25 [(.sub (.var 0) (.cst (.int 2)))]), (.call 2 [(.sub (.var 0) (.cst (.int 3)))])]))]
    []),
   (.ife (.or [(.not (.isi (.sub (.var 0) (.cst (.int 0))) .str)), (.cmp .ne (.sub (.var 0) (.cst (.int 0))) (.cst (.str [105, 110, 115, 101, 114, 116]))), (.not (.isi (.sub (.var 0) (.cst (.int 2))) .tup))])
    [(.ret (.cst (.bl false)))]
    []),
   (.ret (.and [(.cmp .le (.bi .len [(.sub (.var 0) (.cst (.int 2)))]) (.cst (.int 8))), (.bi .all [(.frz (.comp [1] (.call 25 [(.var 1)]) (.name 1) (.val (.sub (.var 0) (.cst (.int 2)))) []))]), (.call 27 [(.sub (.var 0) (.cst (.int 2)))])]))]
def D193 : Def := ⟨1, 2, b193, false⟩
/-- need_app(value); 0 value, 1 one -/
def b194 : List S :=
  [(.ife (.or [(.not (.isi (.var 0) .tup)), (.cmp .gt (.bi .len [(.var 0)]) (.cst (.int 12))), (.not (.bi .all [(.frz (.comp [1] (.call 193 [(.var 1)]) (.name 1) (.val (.var 0)) []))]))])
    [(.raise 12)]
    [])]
def D194 : Def := ⟨1, 2, b194, false⟩
/-- use_works(schema, use); 0 schema, 1 use, 2 place, 3 columns, 4 names, 5 required, 6 column, 7 name -/
def b195 : List S :=
  [(.asg 2 (.call 52 [(.var 0), (.sub (.var 1) (.cst (.int 1)))])),
   (.ife (.cmp .is (.var 2) (.cst .non))
    [(.ret (.cst (.bl false)))]
    []),
   (.asg 3 (.sub (.sub (.var 0) (.var 2)) (.cst (.int 1)))),
   (.ife (.cmp .eq (.sub (.var 1) (.cst (.int 0))) (.cst (.str [114, 101, 97, 100])))
    [(.ret (.cmp .eq (.frz (.comp [6] (.sub (.var 6) (.cst (.int 1))) (.name 6) (.val (.var 3)) [(.cmp .eq (.sub (.var 6) (.cst (.int 0))) (.sub (.var 1) (.cst (.int 2))))])) (.frz (.disp [(.sub (.var 1) (.cst (.int 3)))]))))]
    []),
   (.asgT (.tup [(.name 4), (.name 5)]) (.tup [(.frz (.comp [6] (.sub (.var 6) (.cst (.int 0))) (.name 6) (.val (.var 3)) [])), (.frz (.comp [6] (.sub (.var 6) (.cst (.int 0))) (.name 6) (.val (.var 3)) [(.sub (.var 6) (.cst (.int 2)))]))])),
   (.ret (.and [(.bi .all [(.frz (.comp [7] (.cmp .isin (.var 7) (.var 4)) (.name 7) (.val (.sub (.var 1) (.cst (.int 2)))) []))]), (.bi .all [(.frz (.comp [7] (.cmp .isin (.var 7) (.sub (.var 1) (.cst (.int 2)))) (.name 7) (.val (.var 5)) []))])]))]
def D195 : Def := ⟨2, 8, b195, false⟩
/-- app_works(schema, app); 0 schema, 1 app, 2 use -/
def b196 : List S :=
  [(.ret (.bi .all [(.frz (.comp [2] (.call 195 [(.var 0), (.var 2)]) (.name 2) (.val (.var 1)) []))]))]
def D196 : Def := ⟨2, 3, b196, false⟩
/-- moments(schema, script, app); 0 schema, 1 script, 2 app, 3 count -/
def b197 : List S :=
  [(.ret (.frz (.comp [3] (.var 3) (.name 3) (.rng (.cst (.int 0)) (.bin .add (.bi .len [(.var 1)]) (.cst (.int 1)))) [(.call 196 [(.call 61 [(.var 0), (.slc (.var 1) [] [(.var 3)])]), (.var 2)])])))]
def D197 : Def := ⟨3, 4, b197, false⟩
/-- works(schema, app); 0 schema, 1 app -/
def b198 : List S :=
  [(.expr (.call 31 [(.var 0)])),
   (.expr (.call 194 [(.var 1)])),
   (.ret (.call 196 [(.var 0), (.var 1)]))]
def D198 : Def := ⟨2, 2, b198, false⟩
/-- works_at(schema, script, app); 0 schema, 1 script, 2 app -/
def b199 : List S :=
  [(.expr (.call 63 [(.var 0), (.var 1)])),
   (.expr (.call 194 [(.var 2)])),
   (.ret (.call 197 [(.var 0), (.var 1), (.var 2)]))]
def D199 : Def := ⟨3, 3, b199, false⟩
/-- _law_app(source, schema); 0 source, 1 schema, 2 found, 3 turn, 4 name, 5 some, 6 columns, 7 column, 8 kind, 9 one -/
def b200 : List S :=
  [(.asg 2 (.tup [])),
   (.for (.name 3) (.rng (.cst (.int 0)) (.call 12 [(.var 0), (.cst (.int 4))]))
    [(.asgT (.tup [(.name 4), (.name 6)]) (.call 13 [(.var 0), (.frz (.listof (.var 1)))])), (.asg 4 (.call 13 [(.var 0), (.frz (.disp [(.var 4), (.var 4), (.var 4), (.cst (.str [116]))]))])), (.asg 5 (.frz (.comp [7] (.sub (.var 7) (.cst (.int 0))) (.name 7) (.val (.var 6)) []))), (.ife (.and [(.cmp .ne (.var 6) (.tup [])), (.cmp .eq (.call 12 [(.var 0), (.cst (.int 2))]) (.cst (.int 0)))])
    [(.asg 7 (.call 13 [(.var 0), (.frz (.listof (.var 6)))])), (.asg 8 (.call 13 [(.var 0), (.frz (.disp [(.sub (.var 7) (.cst (.int 1))), (.sub (.var 7) (.cst (.int 1))), (.cst (.str [105, 110, 116]))]))])), (.asg 2 (.bin .add (.var 2) (.tup [(.tup [(.cst (.str [114, 101, 97, 100])), (.var 4), (.sub (.var 7) (.cst (.int 0))), (.var 8)])])))]
    [(.asg 5 (.frz (.comp [9] (.var 9) (.name 9) (.val (.var 5)) [(.cmp .gt (.call 12 [(.var 0), (.cst (.int 4))]) (.cst (.int 0)))]))), (.asg 2 (.bin .add (.var 2) (.tup [(.tup [(.cst (.str [105, 110, 115, 101, 114, 116])), (.var 4), (.bi .tuple [(.var 5)])])])))])]),
   (.ret (.var 2))]
def D200 : Def := ⟨2, 10, b200, false⟩
/-- _law_app_works(schema, app); 0 schema, 1 app, 2 box, 3 use, 4 cells, 5 required, 6 one -/
def b201 : List S :=
  [(.asg 2 (.call 66 [(.var 0), (.call 67 [(.var 0)])])),
   (.for (.name 3) (.val (.var 1))
    [(.ife (.cmp .nin (.sub (.var 3) (.cst (.int 1))) (.var 2))
    [(.ret (.cst (.bl false)))]
    []), (.asg 4 (.sub (.sub (.var 2) (.sub (.var 3) (.cst (.int 1)))) (.cst (.int 1)))), (.ife (.and [(.cmp .eq (.sub (.var 3) (.cst (.int 0))) (.cst (.str [114, 101, 97, 100]))), (.or [(.cmp .nin (.sub (.var 3) (.cst (.int 2))) (.var 4)), (.cmp .ne (.sub (.sub (.var 4) (.sub (.var 3) (.cst (.int 2)))) (.cst (.int 0))) (.sub (.var 3) (.cst (.int 3))))])])
    [(.ret (.cst (.bl false)))]
    []), (.ife (.cmp .eq (.sub (.var 3) (.cst (.int 0))) (.cst (.str [105, 110, 115, 101, 114, 116])))
    [(.asg 5 (.frz (.comp [6] (.var 6) (.name 6) (.val (.var 4)) [(.sub (.sub (.var 4) (.var 6)) (.cst (.int 1)))]))), (.ife (.cmp .ne (.bin .add (.frz (.comp [6] (.var 6) (.name 6) (.val (.sub (.var 3) (.cst (.int 2)))) [(.cmp .nin (.var 6) (.var 4))])) (.frz (.comp [6] (.var 6) (.name 6) (.val (.var 5)) [(.cmp .nin (.var 6) (.sub (.var 3) (.cst (.int 2))))]))) (.frz (.disp [])))
    [(.ret (.cst (.bl false)))]
    [])]
    [])]),
   (.ret (.cst (.bl true)))]
def D201 : Def := ⟨2, 7, b201, false⟩
/-- law(script); 0 script, 1 k, 2 pets, 3 source, 4 turn, 5 odd, 6 value, 7 schema, 8 schemas, 9 due, 10 plan, 11 app, 12 names, 13 count, 14 one -/
def b202 : List S :=
  [(.for (.name 1) (.rng (.cst (.int 0)) (.bi .max [(.cst (.int 1)), (.bi .min [(.cst (.int 8)), (.bi .len [(.var 0)])])]))
    [(.asg 3 (.call 11 [(.var 0), (.var 1)])), (.for (.name 4) (.rng (.cst (.int 0)) (.cst (.int 4)))
    [(.asg 7 (.call 38 [(.var 3), (.cst (.int 2)), (.cst (.int 4))])), (.asgT (.tup [(.name 10), (.name 11)]) (.tup [(.call 89 [(.var 3), (.var 7), (.cst (.int 6))]), (.call 200 [(.var 3), (.var 7)])])), (.asg 8 (.frz (.comp [13] (.sub (.call 90 [(.var 7), (.slc (.var 10) [] [(.var 13)]), (.call 67 [(.var 7)])]) (.cst (.int 0))) (.name 13) (.rng (.cst (.int 0)) (.bin .add (.bi .len [(.var 10)]) (.cst (.int 1)))) []))), (.asg 9 (.frz (.comp [13, 14] (.var 13) (.tup [(.name 13), (.name 14)]) (.enum (.var 8)) [(.call 201 [(.var 14), (.var 11)])]))), (.ife (.or [(.cmp .ne (.call 199 [(.var 7), (.var 10), (.var 11)]) (.var 9)), (.not (.call 19 [(.call 198 [(.var 7), (.var 11)]), (.cmp .isin (.cst (.int 0)) (.var 9))])), (.cmp .isn (.call 198 [(.var 7), (.tup [])]) (.cst (.bl true)))])
    [(.ret (.cst (.bl false)))]
    [])]), (.asg 5 (.frz (.disp [(.cst .non), (.frz (.disp [])), (.tup [(.tup [(.cst (.str [114, 101, 97, 100])), (.cst (.str [116])), (.cst (.str [97]))])]), (.tup [(.tup [(.cst (.str [114, 101, 97, 100])), (.cst (.str [116])), (.cst (.str [97])), (.cst (.str [100, 97, 116, 101]))])]), (.tup [(.tup [(.cst (.str [105, 110, 115, 101, 114, 116])), (.cst (.str [116])), (.tup [(.cst (.str [98])), (.cst (.str [97]))])])]), (.tup [(.tup [(.cst (.str [105, 110, 115, 101, 114, 116])), (.cst (.str [116])), (.frz (.disp [(.cst (.str [97]))]))])])]))), (.for (.name 6) (.val (.bin .add (.var 5) (.frz (.disp [(.tup [(.tup [(.cst (.str [119, 114, 105, 116, 101])), (.cst (.str [116])), (.tup [])])]), (.tup [(.tup [(.cst (.str [105, 110, 115, 101, 114, 116])), (.cst (.str [84])), (.tup [])])]), (.bin .mul (.tup [(.tup [(.cst (.str [105, 110, 115, 101, 114, 116])), (.cst (.str [116])), (.tup [])])]) (.cst (.int 13))), (.tup [(.cst (.str [114, 101, 97, 100]))]), (.tup [(.tup [(.cst (.str [105, 110, 115, 101, 114, 116])), (.cst (.str [116])), (.tup [(.cst (.str [97])), (.cst (.str [97]))])])])]))))
    [(.ife (.or [(.not (.lamR (.call 198 [(.var 7), (.var 6)]) (.cst (.str [97, 112, 112])))), (.not (.lamR (.call 199 [(.var 7), (.var 10), (.var 6)]) (.cst (.str [97, 112, 112]))))])
    [(.ret (.cst (.bl false)))]
    [])]), (.ife (.or [(.not (.lamR (.call 198 [(.cst .non), (.cst .non)]) (.cst (.str [115, 99, 104, 101, 109, 97])))), (.not (.lamR (.call 199 [(.var 7), (.cst .non), (.cst .non)]) (.cst (.str [115, 99, 114, 105, 112, 116]))))])
    [(.ret (.cst (.bl false)))]
    [])]),
   (.asg 2 (.tup [(.tup [(.cst (.str [112, 101, 116, 115])), (.tup [(.tup [(.cst (.str [97, 103, 101])), (.cst (.str [116, 101, 120, 116])), (.cst (.bl false)), (.cst (.bl false))]), (.tup [(.cst (.str [110, 97, 109, 101])), (.cst (.str [116, 101, 120, 116])), (.cst (.bl true)), (.cst (.bl true))])])])])),
   (.ret (.cmp .eq (.frz (.comp [12] (.call 198 [(.var 2), (.tup [(.tup [(.cst (.str [105, 110, 115, 101, 114, 116])), (.cst (.str [112, 101, 116, 115])), (.var 12)])])]) (.name 12) (.val (.frz (.disp [(.tup []), (.tup [(.cst (.str [110, 97, 109, 101]))]), (.tup [(.cst (.str [97, 103, 101]))]), (.tup [(.cst (.str [97, 103, 101])), (.cst (.str [110, 97, 109, 101]))])]))) [])) (.frz (.disp [(.cst (.bl false)), (.cst (.bl true)), (.cst (.bl false)), (.cst (.bl true))]))))]
def D202 : Def := ⟨1, 15, b202, false⟩
/-- handover(schema, script, old, new); 0 schema, 1 script, 2 old, 3 new, 4 order, 5 turned, 6 both, 7 number, 8 count -/
def b204 : List S :=
  [(.expr (.call 63 [(.var 0), (.var 1)])),
   (.expr (.call 194 [(.var 2)])),
   (.expr (.call 194 [(.var 3)])),
   (.ife (.cmp .gt (.bi .len [(.var 1)]) (.cst (.int 6)))
    [(.raise 17)]
    []),
   (.for (.name 4) (.val (.call 203 [(.bi .len [(.var 1)])]))
    [(.asg 5 (.bi .tuple [(.frz (.comp [7] (.sub (.var 1) (.var 7)) (.name 7) (.val (.var 4)) []))])), (.ife (.call 62 [(.var 0), (.var 5)])
    [(.asg 6 (.frz (.comp [8] (.var 8) (.name 8) (.val (.call 197 [(.var 0), (.var 5), (.var 2)])) [(.cmp .isin (.var 8) (.call 197 [(.var 0), (.var 5), (.var 3)]))]))), (.ife (.and [(.cmp .ne (.var 6) (.frz (.disp []))), (.call 133 [(.var 0), (.var 1), (.var 5)])])
    [(.ret (.var 4))]
    [])]
    [])]),
   (.ret (.cst .non))]
def D204 : Def := ⟨4, 9, b204, false⟩
/-- _law_permutations(count); 0 count, 1 found, 2 turn, 3 longer, 4 order, 5 number -/
def b205 : List S :=
  [(.asg 1 (.frz (.disp [(.tup [])]))),
   (.for (.name 2) (.rng (.cst (.int 0)) (.var 0))
    [(.asg 3 (.frz (.disp []))), (.for (.name 4) (.val (.var 1))
    [(.asg 3 (.bin .add (.var 3) (.frz (.comp [5] (.bin .add (.var 4) (.tup [(.var 5)])) (.name 5) (.rng (.cst (.int 0)) (.var 0)) [(.cmp .nin (.var 5) (.var 4))]))))]), (.asg 1 (.var 3))]),
   (.ret (.var 1))]
def D205 : Def := ⟨1, 6, b205, false⟩
/-- _law_common(schema, plan, old, new); 0 schema, 1 plan, 2 old, 3 new, 4 count, 5 one -/
def b206 : List S :=
  [(.for (.name 4) (.rng (.cst (.int 0)) (.bin .add (.bi .len [(.var 1)]) (.cst (.int 1))))
    [(.asg 5 (.sub (.call 90 [(.var 0), (.slc (.var 1) [] [(.var 4)]), (.call 67 [(.var 0)])]) (.cst (.int 0)))), (.ife (.and [(.call 201 [(.var 5), (.var 2)]), (.call 201 [(.var 5), (.var 3)])])
    [(.ret (.cst (.bl true)))]
    [])]),
   (.ret (.cst (.bl false)))]
def D206 : Def := ⟨4, 6, b206, false⟩
/-- need_table(columns, rows); 0 columns, 1 rows -/
def b208 : List S :=
  [(.ife (.not (.call 28 [(.var 0)]))
    [(.raise 13)]
    []),
   (.ife (.not (.call 34 [(.var 0), (.var 1)]))
    [(.raise 14)]
    [])]
def D208 : Def := ⟨2, 2, b208, false⟩
/-- need_tables(columns, rows, later, later_rows); 0 columns, 1 rows, 2 later, 3 later_rows -/
def b209 : List S :=
  [(.expr (.call 208 [(.var 0), (.var 1)])),
   (.expr (.call 208 [(.var 2), (.var 3)])),
   (.ife (.cmp .ne (.bi .len [(.var 1)]) (.bi .len [(.var 3)]))
    [(.raise 14)]
    [])]
def D209 : Def := ⟨4, 4, b209, false⟩
/-- explains(before, after, kind); 0 before, 1 after, 2 kind, 3 value, 4 other, 5 good, 6 found -/
def b210 : List S :=
  [(.for (.tup [(.name 3), (.name 4)]) (.zip [(.var 0), (.var 1)])
    [(.asgT (.tup [(.name 5), (.name 6)]) (.call 9 [(.var 3), (.var 2)])), (.ife (.or [(.not (.var 5)), (.cmp .ne (.call 24 [(.var 6)]) (.call 24 [(.var 4)]))])
    [(.ret (.cst (.bl false)))]
    [])]),
   (.ret (.cst (.bl true)))]
def D210 : Def := ⟨3, 7, b210, false⟩
/-- sources(columns, rows, later, later_rows); 0 columns, 1 rows, 2 later, 3 later_rows, 4 found, 5 at, 6 column, 7 after, 8 some, 9 row, 10 place -/
def b211 : List S :=
  [(.asg 4 (.mut (.disp []))),
   (.for (.tup [(.name 5), (.name 6)]) (.enum (.var 2))
    [(.asg 7 (.frz (.comp [9] (.sub (.var 9) (.var 5)) (.name 9) (.val (.var 3)) []))), (.asg 8 (.frz (.comp [10] (.var 10) (.name 10) (.rng (.cst (.int 0)) (.bi .len [(.var 0)])) [(.call 210 [(.frz (.comp [9] (.sub (.var 9) (.var 10)) (.name 9) (.val (.var 1)) [])), (.var 7), (.sub (.var 6) (.cst (.int 1)))])]))), (.expr (.meth (.var 4) 1 [(.frz (.comp [10] (.sub (.sub (.var 0) (.var 10)) (.cst (.int 0))) (.name 10) (.val (.var 8)) []))]))]),
   (.ret (.var 4))]
def D211 : Def := ⟨4, 11, b211, false⟩
/-- possible_sources(columns, rows, later, later_rows); 0 columns, 1 rows, 2 later, 3 later_rows -/
def b212 : List S :=
  [(.expr (.call 209 [(.var 0), (.var 1), (.var 2), (.var 3)])),
   (.ret (.call 211 [(.var 0), (.var 1), (.var 2), (.var 3)]))]
def D212 : Def := ⟨4, 4, b212, false⟩
/-- _law_told(source); 0 source, 1 plain, 2 columns, 3 rows, 4 turn, 5 later, 6 kinds, 7 cells, 8 made_so, 9 name, 10 place, 11 kind, 12 row, 13 one, 14 at, 15 column -/
def b213 : List S :=
  [(.asg 1 (.frz (.comp [9] (.tup [(.var 9), (.call 15 [(.var 0)]), (.cst (.bl false)), (.cst (.bl false))]) (.name 9) (.val (.slc (.frz (.disp [(.cst (.str [97])), (.cst (.str [98])), (.cst (.str [99])), (.cst (.str [100]))])) [] [(.bin .add (.cst (.int 1)) (.call 12 [(.var 0), (.cst (.int 4))]))])) []))),
   (.asg 2 (.bi .tuple [(.var 1)])),
   (.asg 3 (.bi .tuple [(.frz (.comp [4] (.bi .tuple [(.frz (.comp [15] (.call 39 [(.var 0), (.var 15)]) (.name 15) (.val (.var 2)) []))]) (.name 4) (.rng (.cst (.int 0)) (.call 12 [(.var 0), (.cst (.int 5))])) []))])),
   (.asgT (.tup [(.name 6), (.name 7)]) (.tup [(.mut (.disp [])), (.mut (.disp []))])),
   (.for (.name 4) (.rng (.cst (.int 0)) (.call 12 [(.var 0), (.cst (.int 4))]))
    [(.asgT (.tup [(.name 10), (.name 11)]) (.tup [(.call 12 [(.var 0), (.bi .len [(.var 2)])]), (.call 15 [(.var 0)])])), (.asg 8 (.frz (.comp [12] (.call 22 [(.sub (.var 12) (.var 10)), (.var 11)]) (.name 12) (.val (.var 3)) []))), (.ife (.or [(.cmp .isin (.cst .non) (.var 8)), (.cmp .eq (.call 12 [(.var 0), (.cst (.int 6))]) (.cst (.int 0)))])
    [(.asg 8 (.frz (.comp [12] (.tup [(.call 39 [(.var 0), (.tup [(.cst (.str [])), (.var 11), (.cst (.bl false)), (.cst (.bl false))])])]) (.name 12) (.val (.var 3)) [])))]
    []), (.expr (.meth (.var 6) 1 [(.var 11)])), (.expr (.meth (.var 7) 1 [(.frz (.comp [13] (.sub (.var 13) (.cst (.int 0))) (.name 13) (.val (.var 8)) []))]))]),
   (.asg 5 (.bi .tuple [(.frz (.comp [9, 11] (.tup [(.var 9), (.var 11), (.cst (.bl false)), (.cst (.bl false))]) (.tup [(.name 9), (.name 11)]) (.zip [(.cst (.str [112, 113, 114, 115])), (.var 6)]) []))])),
   (.ret (.tup [(.var 2), (.var 3), (.var 5), (.bi .tuple [(.frz (.comp [14] (.bi .tuple [(.frz (.comp [13] (.sub (.var 13) (.var 14)) (.name 13) (.val (.var 7)) []))]) (.name 14) (.rng (.cst (.int 0)) (.bi .len [(.var 3)])) []))])]))]
def D213 : Def := ⟨1, 16, b213, false⟩
/-- _law_sources(columns, rows, later, later_rows); 0 columns, 1 rows, 2 later, 3 later_rows, 4 found, 5 at, 6 column, 7 some, 8 place, 9 one, 10 pairs, 11 row, 12 other, 13 made_so, 14 due -/
def b214 : List S :=
  [(.asg 4 (.mut (.disp []))),
   (.for (.tup [(.name 5), (.name 6)]) (.enum (.var 2))
    [(.asg 7 (.mut (.disp []))), (.for (.tup [(.name 8), (.name 9)]) (.enum (.var 0))
    [(.asg 10 (.frz (.comp [11, 12] (.tup [(.call 22 [(.sub (.var 11) (.var 8)), (.sub (.var 6) (.cst (.int 1)))]), (.sub (.var 12) (.var 5))]) (.tup [(.name 11), (.name 12)]) (.zip [(.var 1), (.var 3)]) []))), (.ife (.cmp .eq (.frz (.comp [13, 14] (.cst (.int 1)) (.tup [(.name 13), (.name 14)]) (.val (.var 10)) [(.or [(.cmp .is (.var 13) (.cst .non)), (.cmp .ne (.call 40 [(.sub (.var 13) (.cst (.int 0)))]) (.call 40 [(.var 14)]))])])) (.frz (.disp [])))
    [(.expr (.meth (.var 7) 1 [(.sub (.var 9) (.cst (.int 0)))]))]
    [])]), (.expr (.meth (.var 4) 1 [(.var 7)]))]),
   (.ret (.var 4))]
def D214 : Def := ⟨4, 15, b214, false⟩
/-- law(script); 0 script, 1 k, 2 source, 3 turn, 4 value, 5 first, 6 second, 7 found, 8 columns, 9 rows, 10 later, 11 later_rows -/
def b215 : List S :=
  [(.for (.name 1) (.rng (.cst (.int 0)) (.bi .max [(.cst (.int 1)), (.bi .min [(.cst (.int 8)), (.bi .len [(.var 0)])])]))
    [(.asg 2 (.call 11 [(.var 0), (.var 1)])), (.for (.name 3) (.rng (.cst (.int 0)) (.cst (.int 4)))
    [(.asgT (.tup [(.name 8), (.name 9), (.name 10), (.name 11)]) (.call 213 [(.var 2)])), (.asg 7 (.call 212 [(.var 8), (.var 9), (.var 10), (.var 11)])), (.ife (.cmp .ne (.var 7) (.call 214 [(.var 8), (.var 9), (.var 10), (.var 11)]))
    [(.ret (.cst (.bl false)))]
    []), (.expr (.meth (.var 7) 1 [(.cst .non)])), (.ife (.cmp .ne (.call 212 [(.var 8), (.var 9), (.var 10), (.var 11)]) (.slc (.var 7) [] [(.neg (.cst (.int 1)))]))
    [(.ret (.cst (.bl false)))]
    [])]), (.for (.name 4) (.val (.frz (.disp [(.cst .non), (.frz (.disp [])), (.tup [(.tup [(.cst (.str [97])), (.cst (.str [105, 110, 116])), (.cst (.bl true))])]), (.tup [(.tup [(.cst (.str [98])), (.cst (.str [105, 110, 116])), (.cst (.bl true)), (.cst (.bl true))]), (.tup [(.cst (.str [97])), (.cst (.str [105, 110, 116])), (.cst (.bl true)), (.cst (.bl true))])])])))
    [(.ife (.not (.lamR (.call 212 [(.var 4), (.cst .non), (.cst .non), (.cst .non)]) (.cst (.str [99, 111, 108, 117, 109, 110, 115]))))
    [(.ret (.cst (.bl false)))]
    []), (.ife (.not (.lamR (.call 212 [(.var 8), (.var 9), (.var 4), (.cst .non)]) (.cst (.str [99, 111, 108, 117, 109, 110, 115]))))
    [(.ret (.cst (.bl false)))]
    [])]), (.for (.name 4) (.val (.frz (.disp [(.cst .non), (.frz (.disp [])), (.tup [(.tup [(.cst (.int 1)), (.cst (.int 2)), (.cst (.int 3)), (.cst (.int 4)), (.cst (.int 5)), (.cst (.int 6)), (.cst (.int 7)), (.cst (.int 8)), (.cst (.int 9))])]), (.bin .add (.var 9) (.bin .mul (.tup [(.tup [])]) (.cst (.int 31))))])))
    [(.ife (.not (.lamR (.call 212 [(.var 8), (.var 4), (.cst .non), (.cst .non)]) (.cst (.str [114, 111, 119, 115]))))
    [(.ret (.cst (.bl false)))]
    []), (.ife (.not (.lamR (.call 212 [(.var 8), (.var 9), (.var 10), (.var 4)]) (.cst (.str [114, 111, 119, 115]))))
    [(.ret (.cst (.bl false)))]
    [])]), (.ife (.not (.lamR (.call 212 [(.tup []), (.tup [(.tup []), (.tup [])]), (.tup []), (.tup [(.tup [])])]) (.cst (.str [114, 111, 119, 115]))))
    [(.ret (.cst (.bl false)))]
    [])]),
   (.asgT (.tup [(.name 5), (.name 6)]) (.tup [(.tup [(.tup [(.cst (.str [97])), (.cst (.str [105, 110, 116])), (.cst (.bl false)), (.cst (.bl false))]), (.tup [(.cst (.str [98])), (.cst (.str [116, 101, 120, 116])), (.cst (.bl false)), (.cst (.bl false))])]), (.tup [(.tup [(.cst (.str [112])), (.cst (.str [116, 101, 120, 116])), (.cst (.bl false)), (.cst (.bl false))])])])),
   (.ret (.cmp .eq (.call 212 [(.var 5), (.tup [(.tup [(.cst (.int 1)), (.cst (.str [50]))]), (.tup [(.cst .non), (.cst .non)])]), (.var 6), (.tup [(.tup [(.cst (.str [49]))]), (.tup [(.cst .non)])])]) (.frz (.disp [(.frz (.disp [(.cst (.str [97]))]))]))))]
def D215 : Def := ⟨1, 12, b215, false⟩
/-- sure_sources(columns, rows, later, later_rows); 0 columns, 1 rows, 2 later, 3 later_rows, 4 lists, 5 found, 6 at, 7 names, 8 some, 9 name -/
def b217 : List S :=
  [(.expr (.call 209 [(.var 0), (.var 1), (.var 2), (.var 3)])),
   (.asgT (.tup [(.name 4), (.name 5)]) (.tup [(.call 211 [(.var 0), (.var 1), (.var 2), (.var 3)]), (.mut (.disp []))])),
   (.ife (.not (.call 216 [(.var 4)]))
    [(.ret (.cst .non))]
    []),
   (.for (.tup [(.name 6), (.name 7)]) (.enum (.var 4))
    [(.asg 8 (.frz (.comp [9] (.var 9) (.name 9) (.val (.var 7)) [(.call 216 [(.bin .add (.bin .add (.slc (.var 4) [] [(.var 6)]) (.frz (.disp [(.frz (.disp [(.var 9)]))]))) (.slc (.var 4) [(.bin .add (.var 6) (.cst (.int 1)))] []))])]))), (.expr (.meth (.var 5) 1 [(.ife (.cmp .eq (.bi .len [(.var 8)]) (.cst (.int 1))) (.sub (.var 8) (.cst (.int 0))) (.cst .non))]))]),
   (.ret (.var 5))]
def D217 : Def := ⟨4, 10, b217, false⟩
/-- _law_ways(lists); 0 lists, 1 found, 2 names, 3 later, 4 way, 5 name -/
def b218 : List S :=
  [(.asg 1 (.frz (.disp [(.tup [])]))),
   (.for (.name 2) (.val (.var 0))
    [(.asg 3 (.frz (.disp []))), (.for (.name 4) (.val (.var 1))
    [(.asg 3 (.bin .add (.var 3) (.frz (.comp [5] (.bin .add (.var 4) (.tup [(.var 5)])) (.name 5) (.val (.var 2)) [(.cmp .nin (.var 5) (.var 4))]))))]), (.asg 1 (.var 3))]),
   (.ret (.var 1))]
def D218 : Def := ⟨1, 6, b218, false⟩
/-- _law_inserted(schema, data, place, row); 0 schema, 1 data, 2 place, 3 row, 4 rows -/
def b221 : List S :=
  [(.asg 4 (.bin .add (.sub (.var 1) (.var 2)) (.tup [(.var 3)]))),
   (.ife (.not (.call 49 [(.sub (.sub (.var 0) (.var 2)) (.cst (.int 1))), (.var 4)]))
    [(.ret (.cst .non))]
    []),
   (.ret (.bin .add (.bin .add (.slc (.var 1) [] [(.var 2)]) (.tup [(.var 4)])) (.slc (.var 1) [(.bin .add (.var 2) (.cst (.int 1)))] [])))]
def D221 : Def := ⟨4, 5, b221, false⟩
/-- _law_users(number, word); 0 number, 1 word, 2 schema, 3 wide, 4 data, 5 fill, 6 fixed -/
def b225 : List S :=
  [(.asg 2 (.tup [(.tup [(.cst (.str [117, 115, 101, 114, 115])), (.tup [(.tup [(.cst (.str [97, 103, 101])), (.cst (.str [105, 110, 116])), (.cst (.bl false)), (.cst (.bl false))]), (.tup [(.cst (.str [109, 97, 105, 108])), (.cst (.str [116, 101, 120, 116])), (.cst (.bl false)), (.cst (.bl true))])])])])),
   (.asg 3 (.tup [(.tup [(.cst (.str [99, 111, 110, 118, 101, 114, 116])), (.cst (.str [117, 115, 101, 114, 115])), (.cst (.str [97, 103, 101])), (.cst (.str [116, 101, 120, 116]))]), (.tup [(.cst (.str [114, 101, 108, 97, 98, 101, 108])), (.cst (.str [117, 115, 101, 114, 115])), (.cst (.str [97, 103, 101])), (.cst (.str [121, 101, 97, 114, 115]))])])),
   (.asg 4 (.tup [(.tup [(.tup [(.var 0), (.var 1)]), (.tup [(.cst .non), (.cst .non)])])])),
   (.ife (.or [(.cmp .ne (.call 87 [(.var 2), (.var 3), (.var 4)]) (.tup [(.tup [(.tup [(.var 1), (.bi .str [(.var 0)])]), (.tup [(.cst .non), (.cst .non)])])])), (.cmp .isn (.call 149 [(.var 2), (.var 3)]) (.cst .non))])
    [(.ret (.cst (.bl false)))]
    []),
   (.ife (.or [(.cmp .ne (.call 154 [(.var 2), (.var 3), (.call 87 [(.var 2), (.var 3), (.var 4)])]) (.var 4)), (.cmp .isn (.call 138 [(.var 2), (.var 3)]) (.cst .non))])
    [(.ret (.cst (.bl false)))]
    []),
   (.asg 5 (.tup [(.tup [(.cst (.str [114, 101, 112, 108, 97, 99, 101])), (.cst (.str [117, 115, 101, 114, 115])), (.cst (.str [97, 103, 101])), (.cst .non), (.var 0)]), (.tup [(.cst (.str [114, 101, 113, 117, 105, 114, 101])), (.cst (.str [117, 115, 101, 114, 115])), (.cst (.str [97, 103, 101]))])])),
   (.ife (.or [(.cmp .isn (.call 138 [(.var 2), (.var 5)]) (.cst .non)), (.cmp .ne (.call 145 [(.var 2), (.var 5)]) (.frz (.disp [(.tup [(.cst (.str [117, 115, 101, 114, 115])), (.cst (.str [109, 97, 105, 108]))])])))])
    [(.ret (.cst (.bl false)))]
    []),
   (.ife (.or [(.cmp .is (.call 138 [(.var 2), (.slc (.var 5) [(.cst (.int 1))] [])]) (.cst .non)), (.cmp .ne (.call 134 [(.var 2), (.var 5)]) (.frz (.disp [])))])
    [(.ret (.cst (.bl false)))]
    []),
   (.asg 6 (.tup [(.tup [(.cst (.str [97, 100, 100])), (.cst (.str [117, 115, 101, 114, 115])), (.cst (.str [99, 111, 100, 101])), (.cst (.str [105, 110, 116])), (.var 0)]), (.tup [(.cst (.str [117, 110, 105, 113, 117, 101])), (.cst (.str [117, 115, 101, 114, 115])), (.cst (.str [99, 111, 100, 101]))])])),
   (.ret (.and [(.cmp .is (.call 143 [(.var 2), (.var 6), (.cst (.str [117, 115, 101, 114, 115]))]) (.cst (.bl true))), (.cmp .eq (.bi .len [(.sub (.call 138 [(.var 2), (.var 6)]) (.cst (.int 0)))]) (.cst (.int 2)))]))]
def D225 : Def := ⟨2, 7, b225, false⟩
/-- _law_exchange(number, word); 0 number, 1 word, 2 schema, 3 names, 4 copies -/
def b226 : List S :=
  [(.asg 2 (.tup [(.tup [(.cst (.str [116])), (.tup [(.tup [(.cst (.str [97])), (.cst (.str [105, 110, 116])), (.cst (.bl false)), (.cst (.bl false))]), (.tup [(.cst (.str [98])), (.cst (.str [116, 101, 120, 116])), (.cst (.bl false)), (.cst (.bl false))])])])])),
   (.asg 3 (.tup [(.tup [(.cst (.str [114, 101, 108, 97, 98, 101, 108])), (.cst (.str [116])), (.cst (.str [97])), (.cst (.str [120]))]), (.tup [(.cst (.str [114, 101, 108, 97, 98, 101, 108])), (.cst (.str [116])), (.cst (.str [98])), (.cst (.str [97]))]), (.tup [(.cst (.str [114, 101, 108, 97, 98, 101, 108])), (.cst (.str [116])), (.cst (.str [120])), (.cst (.str [98]))])])),
   (.asg 4 (.tup [(.tup [(.cst (.str [99, 111, 112, 121])), (.cst (.str [116])), (.cst (.str [97])), (.cst (.str [120]))]), (.tup [(.cst (.str [114, 101, 109, 111, 118, 101])), (.cst (.str [116])), (.cst (.str [97]))]), (.tup [(.cst (.str [99, 111, 112, 121])), (.cst (.str [116])), (.cst (.str [98])), (.cst (.str [97]))]), (.tup [(.cst (.str [114, 101, 109, 111, 118, 101])), (.cst (.str [116])), (.cst (.str [98]))]), (.tup [(.cst (.str [114, 101, 108, 97, 98, 101, 108])), (.cst (.str [116])), (.cst (.str [120])), (.cst (.str [98]))])])),
   (.ife (.or [(.cmp .ne (.call 87 [(.var 2), (.var 3), (.tup [(.tup [(.tup [(.var 0), (.var 1)])])])]) (.tup [(.tup [(.tup [(.var 1), (.var 0)])])])), (.cmp .isn (.call 122 [(.var 2), (.var 3), (.var 4)]) (.cst (.bl true)))])
    [(.ret (.cst (.bl false)))]
    []),
   (.ife (.or [(.cmp .ne (.call 161 [(.tup [(.cst (.str [97])), (.cst (.str [98]))]), (.tup [(.tup [(.cst (.str [97])), (.cst (.str [98]))]), (.tup [(.cst (.str [98])), (.cst (.str [97]))])])]) (.cst (.int 3))), (.cmp .ne (.call 94 [(.var 2), (.var 3)]) (.tup [(.tup [(.cst (.str [116])), (.cst (.str [116])), (.tup [(.tup [(.cst (.str [97])), (.tup []), (.cst (.str [98]))]), (.tup [(.cst (.str [98])), (.tup []), (.cst (.str [97]))])])])]))])
    [(.ret (.cst (.bl false)))]
    []),
   (.ret (.and [(.cmp .is (.call 122 [(.var 2), (.bin .add (.var 3) (.var 3)), (.tup [])]) (.cst (.bl true))), (.cmp .is (.call 149 [(.var 2), (.var 4)]) (.cst .non))]))]
def D226 : Def := ⟨2, 5, b226, false⟩
/-- _law_branches(number, word); 0 number, 1 word, 2 schema, 3 one, 4 two, 5 both, 6 old, 7 new -/
def b227 : List S :=
  [(.asg 2 (.tup [(.tup [(.cst (.str [112, 101, 116, 115])), (.tup [(.tup [(.cst (.str [97, 103, 101])), (.cst (.str [116, 101, 120, 116])), (.cst (.bl false)), (.cst (.bl false))]), (.tup [(.cst (.str [110, 97, 109, 101])), (.cst (.str [116, 101, 120, 116])), (.cst (.bl true)), (.cst (.bl true))])])])])),
   (.asg 3 (.tup [(.tup [(.cst (.str [99, 111, 110, 118, 101, 114, 116])), (.cst (.str [112, 101, 116, 115])), (.cst (.str [97, 103, 101])), (.cst (.str [105, 110, 116]))])])),
   (.asg 4 (.tup [(.tup [(.cst (.str [114, 101, 108, 97, 98, 101, 108])), (.cst (.str [112, 101, 116, 115])), (.cst (.str [97, 103, 101])), (.cst (.str [121, 101, 97, 114, 115]))]), (.tup [(.cst (.str [97, 100, 100])), (.cst (.str [112, 101, 116, 115])), (.cst (.str [107, 105, 110, 100])), (.cst (.str [116, 101, 120, 116])), (.var 1)])])),
   (.asg 5 (.call 179 [(.var 2), (.var 3), (.var 4)])),
   (.ife (.cmp .ne (.call 178 [(.var 2), (.var 3), (.var 4)]) (.frz (.disp [])))
    [(.ret (.cst (.bl false)))]
    []),
   (.ife (.cmp .ne (.call 87 [(.var 2), (.var 5), (.tup [(.tup [(.tup [(.bi .str [(.var 0)]), (.var 1)])])])]) (.tup [(.tup [(.tup [(.var 1), (.var 1), (.var 0)])])]))
    [(.ret (.cst (.bl false)))]
    []),
   (.ife (.cmp .ne (.call 178 [(.var 2), (.var 3), (.tup [(.tup [(.cst (.str [99, 111, 110, 118, 101, 114, 116])), (.cst (.str [112, 101, 116, 115])), (.cst (.str [97, 103, 101])), (.cst (.str [102, 108, 97, 103]))])])]) (.frz (.disp [(.tup [(.cst (.str [99, 111, 108, 117, 109, 110])), (.cst (.str [112, 101, 116, 115])), (.cst (.str [97, 103, 101]))])])))
    [(.ret (.cst (.bl false)))]
    []),
   (.ife (.or [(.cmp .ne (.call 178 [(.var 2), (.var 3), (.var 3)]) (.frz (.disp []))), (.cmp .ne (.call 178 [(.var 2), (.var 4), (.tup [(.tup [(.cst (.str [114, 101, 108, 97, 98, 101, 108])), (.cst (.str [112, 101, 116, 115])), (.cst (.str [97, 103, 101])), (.cst (.str [111, 108, 100]))])])]) (.frz (.disp [(.tup [(.cst (.str [99, 111, 108, 117, 109, 110])), (.cst (.str [112, 101, 116, 115])), (.cst (.str [97, 103, 101]))])])))])
    [(.ret (.cst (.bl false)))]
    []),
   (.asgT (.tup [(.name 6), (.name 7)]) (.tup [(.tup [(.tup [(.cst (.str [114, 101, 97, 100])), (.cst (.str [112, 101, 116, 115])), (.cst (.str [97, 103, 101])), (.cst (.str [116, 101, 120, 116]))])]), (.tup [(.tup [(.cst (.str [114, 101, 97, 100])), (.cst (.str [112, 101, 116, 115])), (.cst (.str [121, 101, 97, 114, 115])), (.cst (.str [116, 101, 120, 116]))]), (.tup [(.cst (.str [105, 110, 115, 101, 114, 116])), (.cst (.str [112, 101, 116, 115])), (.tup [(.cst (.str [110, 97, 109, 101])), (.cst (.str [121, 101, 97, 114, 115]))])])])])),
   (.ret (.and [(.cmp .eq (.call 199 [(.var 2), (.var 4), (.var 6)]) (.frz (.disp [(.cst (.int 0))]))), (.cmp .eq (.call 199 [(.var 2), (.var 4), (.var 7)]) (.frz (.disp [(.cst (.int 1)), (.cst (.int 2))])))]))]
def D227 : Def := ⟨2, 8, b227, false⟩
/-- law(script); 0 script, 1 k, 2 flags, 3 plan, 4 safe, 5 source, 6 number, 7 word -/
def b228 : List S :=
  [(.for (.name 1) (.rng (.cst (.int 0)) (.bi .max [(.cst (.int 1)), (.bi .min [(.cst (.int 6)), (.bi .len [(.var 0)])])]))
    [(.asg 5 (.call 11 [(.var 0), (.var 1)])), (.asgT (.tup [(.name 6), (.name 7)]) (.tup [(.bin .add (.cst (.int 2)) (.call 12 [(.var 5), (.bin .sub (.bin .pow (.cst (.int 10)) (.cst (.int 9))) (.cst (.int 2)))])), (.bin .add (.cst (.str [119])) (.bi .str [(.call 12 [(.var 5), (.cst (.int 1000))])]))])), (.ife (.or [(.not (.call 225 [(.var 6), (.var 7)])), (.not (.call 226 [(.var 6), (.var 7)])), (.not (.call 227 [(.var 6), (.var 7)]))])
    [(.ret (.cst (.bl false)))]
    [])]),
   (.asg 2 (.tup [(.tup [(.cst (.str [111, 108, 100])), (.tup [(.tup [(.cst (.str [100, 111, 110, 101])), (.cst (.str [105, 110, 116])), (.cst (.bl true)), (.cst (.bl false))])])])])),
   (.asg 3 (.tup [(.tup [(.cst (.str [99, 111, 110, 118, 101, 114, 116])), (.cst (.str [111, 108, 100])), (.cst (.str [100, 111, 110, 101])), (.cst (.str [102, 108, 97, 103]))])])),
   (.ife (.or [(.cmp .ne (.call 87 [(.var 2), (.var 3), (.tup [(.tup [(.tup [(.cst (.int 1))]), (.tup [(.cst (.int 0))])])])]) (.tup [(.tup [(.tup [(.cst (.bl true))]), (.tup [(.cst (.bl false))])])])), (.cmp .is (.call 138 [(.var 2), (.var 3)]) (.cst .non))])
    [(.ret (.cst (.bl false)))]
    []),
   (.asg 4 (.tup [(.tup [(.cst (.str [99, 111, 110, 118, 101, 114, 116])), (.cst (.str [111, 108, 100])), (.cst (.str [100, 111, 110, 101])), (.cst (.str [116, 101, 120, 116]))]), (.tup [(.cst (.str [114, 101, 112, 108, 97, 99, 101])), (.cst (.str [111, 108, 100])), (.cst (.str [100, 111, 110, 101])), (.cst (.str [49])), (.cst (.str [116, 114, 117, 101]))]), (.tup [(.cst (.str [114, 101, 112, 108, 97, 99, 101])), (.cst (.str [111, 108, 100])), (.cst (.str [100, 111, 110, 101])), (.cst (.str [48])), (.cst (.str [102, 97, 108, 115, 101]))])])),
   (.ret (.and [(.cmp .is (.call 122 [(.var 2), (.var 3), (.bin .add (.var 4) (.tup [(.tup [(.cst (.str [99, 111, 110, 118, 101, 114, 116])), (.cst (.str [111, 108, 100])), (.cst (.str [100, 111, 110, 101])), (.cst (.str [102, 108, 97, 103]))])]))]) (.cst (.bl true))), (.cmp .is (.call 149 [(.var 2), (.var 3)]) (.cst .non))]))]
def D228 : Def := ⟨1, 8, b228, false⟩
def tbl : List (Nat × Def) := [(1, D1), (2, D2), (3, D3), (4, D4), (5, D5), (6, D6), (7, D7), (8, D8), (9, D9), (10, D10), (11, D11), (12, D12), (13, D13), (14, D14), (15, D15), (16, D16), (17, D17), (18, D18), (19, D19), (20, D20), (21, D21), (22, D22), (23, D23), (24, D24), (25, D25), (26, D26), (27, D27), (28, D28), (29, D29), (30, D30), (31, D31), (32, D32), (34, D34), (35, D35), (36, D36), (37, D37), (38, D38), (39, D39), (40, D40), (41, D41), (42, D42), (44, D44), (45, D45), (46, D46), (47, D47), (49, D49), (50, D50), (52, D52), (54, D54), (55, D55), (57, D57), (59, D59), (60, D60), (61, D61), (62, D62), (63, D63), (64, D64), (65, D65), (66, D66), (67, D67), (68, D68), (69, D69), (71, D71), (73, D73), (75, D75), (76, D76), (78, D78), (79, D79), (80, D80), (81, D81), (83, D83), (86, D86), (90, D90), (92, D92), (94, D94), (95, D95), (96, D96), (100, D100), (101, D101), (102, D102), (104, D104), (105, D105), (106, D106), (107, D107), (108, D108), (109, D109), (110, D110), (111, D111), (112, D112), (114, D114), (115, D115), (116, D116), (117, D117), (121, D121), (122, D122), (124, D124), (126, D126), (127, D127), (129, D129), (130, D130), (131, D131), (133, D133), (134, D134), (135, D135), (138, D138), (139, D139), (140, D140), (141, D141), (147, D147), (149, D149), (155, D155), (156, D156), (157, D157), (159, D159), (160, D160), (161, D161), (165, D165), (166, D166), (168, D168), (169, D169), (170, D170), (171, D171), (173, D173), (174, D174), (178, D178), (179, D179), (180, D180), (181, D181), (182, D182), (188, D188), (189, D189), (190, D190), (191, D191), (192, D192), (193, D193), (194, D194), (195, D195), (196, D196), (197, D197), (198, D198), (199, D199), (200, D200), (201, D201), (202, D202), (204, D204), (205, D205), (206, D206), (208, D208), (209, D209), (210, D210), (211, D211), (212, D212), (213, D213), (214, D214), (215, D215), (217, D217), (218, D218), (221, D221), (225, D225), (226, D226), (227, D227), (228, D228)]
/-- 0 InvalidValue, 1 InvalidType, 2 CannotConvert, 3 InvalidSchema, 4 InvalidData, 5 InvalidStep, 6 InvalidScript, 7 InvalidNumber, 8 InvalidTable, 9 InvalidRow, 10 InvalidNames, 11 InvalidWish, 12 InvalidApp, 13 InvalidColumns, 14 InvalidRows, 15 LosesData, 16 Conflict, 17 TooMany, 18 NothingToUndo -/
def ws : List (List Nat) := [[118, 97, 108, 117, 101, 32, 98, 97, 115, 101],
  [107, 105, 110, 100, 32, 98, 97, 115, 101],
  [99, 111, 110, 118, 101, 114, 116, 32, 98, 97, 115, 101],
  [115, 99, 104, 101, 109, 97, 32, 98, 97, 115, 101],
  [100, 97, 116, 97, 32, 98, 97, 115, 101],
  [115, 116, 101, 112, 32, 98, 97, 115, 101],
  [115, 99, 114, 105, 112, 116, 32, 98, 97, 115, 101],
  [110, 117, 109, 98, 101, 114, 32, 98, 97, 115, 101],
  [116, 97, 98, 108, 101, 32, 98, 97, 115, 101],
  [114, 111, 119, 32, 98, 97, 115, 101],
  [110, 97, 109, 101, 115, 32, 98, 97, 115, 101],
  [119, 105, 115, 104, 32, 98, 97, 115, 101],
  [97, 112, 112, 32, 98, 97, 115, 101],
  [99, 111, 108, 117, 109, 110, 115, 32, 98, 97, 115, 101],
  [114, 111, 119, 115, 32, 98, 97, 115, 101],
  [108, 111, 115, 101, 115, 32, 98, 97, 115, 101],
  [99, 111, 110, 102, 108, 105, 99, 116, 32, 98, 97, 115, 101],
  [109, 97, 110, 121, 32, 98, 97, 115, 101],
  [117, 110, 100, 111, 32, 98, 97, 115, 101]]
def P : Prg := { defs := fun i => tbl.lookup i, glob := fun _ => none, meth := fun _ _ => none, word := fun c => ws[c]?, wf := 1000000 }
theorem d1 : P.defs 1 = some D1 := by rfl
theorem d2 : P.defs 2 = some D2 := by rfl
theorem d3 : P.defs 3 = some D3 := by rfl
theorem d4 : P.defs 4 = some D4 := by rfl
theorem d5 : P.defs 5 = some D5 := by rfl
theorem d6 : P.defs 6 = some D6 := by rfl
theorem d7 : P.defs 7 = some D7 := by rfl
theorem d8 : P.defs 8 = some D8 := by rfl
theorem d9 : P.defs 9 = some D9 := by rfl
theorem d10 : P.defs 10 = some D10 := by rfl
theorem d11 : P.defs 11 = some D11 := by rfl
theorem d12 : P.defs 12 = some D12 := by rfl
theorem d13 : P.defs 13 = some D13 := by rfl
theorem d14 : P.defs 14 = some D14 := by rfl
theorem d15 : P.defs 15 = some D15 := by rfl
theorem d16 : P.defs 16 = some D16 := by rfl
theorem d17 : P.defs 17 = some D17 := by rfl
theorem d18 : P.defs 18 = some D18 := by rfl
theorem d19 : P.defs 19 = some D19 := by rfl
theorem d20 : P.defs 20 = some D20 := by rfl
theorem d21 : P.defs 21 = some D21 := by rfl
theorem d22 : P.defs 22 = some D22 := by rfl
theorem d23 : P.defs 23 = some D23 := by rfl
theorem d24 : P.defs 24 = some D24 := by rfl
theorem d25 : P.defs 25 = some D25 := by rfl
theorem d26 : P.defs 26 = some D26 := by rfl
theorem d27 : P.defs 27 = some D27 := by rfl
theorem d28 : P.defs 28 = some D28 := by rfl
theorem d29 : P.defs 29 = some D29 := by rfl
theorem d30 : P.defs 30 = some D30 := by rfl
theorem d31 : P.defs 31 = some D31 := by rfl
theorem d32 : P.defs 32 = some D32 := by rfl
theorem d34 : P.defs 34 = some D34 := by rfl
theorem d35 : P.defs 35 = some D35 := by rfl
theorem d36 : P.defs 36 = some D36 := by rfl
theorem d37 : P.defs 37 = some D37 := by rfl
theorem d38 : P.defs 38 = some D38 := by rfl
theorem d39 : P.defs 39 = some D39 := by rfl
theorem d40 : P.defs 40 = some D40 := by rfl
theorem d41 : P.defs 41 = some D41 := by rfl
theorem d42 : P.defs 42 = some D42 := by rfl
theorem d44 : P.defs 44 = some D44 := by rfl
theorem d45 : P.defs 45 = some D45 := by rfl
theorem d46 : P.defs 46 = some D46 := by rfl
theorem d47 : P.defs 47 = some D47 := by rfl
theorem d49 : P.defs 49 = some D49 := by rfl
theorem d50 : P.defs 50 = some D50 := by rfl
theorem d52 : P.defs 52 = some D52 := by rfl
theorem d54 : P.defs 54 = some D54 := by rfl
theorem d55 : P.defs 55 = some D55 := by rfl
theorem d57 : P.defs 57 = some D57 := by rfl
theorem d59 : P.defs 59 = some D59 := by rfl
theorem d60 : P.defs 60 = some D60 := by rfl
theorem d61 : P.defs 61 = some D61 := by rfl
theorem d62 : P.defs 62 = some D62 := by rfl
theorem d63 : P.defs 63 = some D63 := by rfl
theorem d64 : P.defs 64 = some D64 := by rfl
theorem d65 : P.defs 65 = some D65 := by rfl
theorem d66 : P.defs 66 = some D66 := by rfl
theorem d67 : P.defs 67 = some D67 := by rfl
theorem d68 : P.defs 68 = some D68 := by rfl
theorem d69 : P.defs 69 = some D69 := by rfl
theorem d71 : P.defs 71 = some D71 := by rfl
theorem d73 : P.defs 73 = some D73 := by rfl
theorem d75 : P.defs 75 = some D75 := by rfl
theorem d76 : P.defs 76 = some D76 := by rfl
theorem d78 : P.defs 78 = some D78 := by rfl
theorem d79 : P.defs 79 = some D79 := by rfl
theorem d80 : P.defs 80 = some D80 := by rfl
theorem d81 : P.defs 81 = some D81 := by rfl
theorem d83 : P.defs 83 = some D83 := by rfl
theorem d86 : P.defs 86 = some D86 := by rfl
theorem d90 : P.defs 90 = some D90 := by rfl
theorem d92 : P.defs 92 = some D92 := by rfl
theorem d94 : P.defs 94 = some D94 := by rfl
theorem d95 : P.defs 95 = some D95 := by rfl
theorem d96 : P.defs 96 = some D96 := by rfl
theorem d100 : P.defs 100 = some D100 := by rfl
theorem d101 : P.defs 101 = some D101 := by rfl
theorem d102 : P.defs 102 = some D102 := by rfl
theorem d104 : P.defs 104 = some D104 := by rfl
theorem d105 : P.defs 105 = some D105 := by rfl
theorem d106 : P.defs 106 = some D106 := by rfl
theorem d107 : P.defs 107 = some D107 := by rfl
theorem d108 : P.defs 108 = some D108 := by rfl
theorem d109 : P.defs 109 = some D109 := by rfl
theorem d110 : P.defs 110 = some D110 := by rfl
theorem d111 : P.defs 111 = some D111 := by rfl
theorem d112 : P.defs 112 = some D112 := by rfl
theorem d114 : P.defs 114 = some D114 := by rfl
theorem d115 : P.defs 115 = some D115 := by rfl
theorem d116 : P.defs 116 = some D116 := by rfl
theorem d117 : P.defs 117 = some D117 := by rfl
theorem d121 : P.defs 121 = some D121 := by rfl
theorem d122 : P.defs 122 = some D122 := by rfl
theorem d124 : P.defs 124 = some D124 := by rfl
theorem d126 : P.defs 126 = some D126 := by rfl
theorem d127 : P.defs 127 = some D127 := by rfl
theorem d129 : P.defs 129 = some D129 := by rfl
theorem d130 : P.defs 130 = some D130 := by rfl
theorem d131 : P.defs 131 = some D131 := by rfl
theorem d133 : P.defs 133 = some D133 := by rfl
theorem d134 : P.defs 134 = some D134 := by rfl
theorem d135 : P.defs 135 = some D135 := by rfl
theorem d138 : P.defs 138 = some D138 := by rfl
theorem d139 : P.defs 139 = some D139 := by rfl
theorem d140 : P.defs 140 = some D140 := by rfl
theorem d141 : P.defs 141 = some D141 := by rfl
theorem d147 : P.defs 147 = some D147 := by rfl
theorem d149 : P.defs 149 = some D149 := by rfl
theorem d155 : P.defs 155 = some D155 := by rfl
theorem d156 : P.defs 156 = some D156 := by rfl
theorem d157 : P.defs 157 = some D157 := by rfl
theorem d159 : P.defs 159 = some D159 := by rfl
theorem d160 : P.defs 160 = some D160 := by rfl
theorem d161 : P.defs 161 = some D161 := by rfl
theorem d165 : P.defs 165 = some D165 := by rfl
theorem d166 : P.defs 166 = some D166 := by rfl
theorem d168 : P.defs 168 = some D168 := by rfl
theorem d169 : P.defs 169 = some D169 := by rfl
theorem d170 : P.defs 170 = some D170 := by rfl
theorem d171 : P.defs 171 = some D171 := by rfl
theorem d173 : P.defs 173 = some D173 := by rfl
theorem d174 : P.defs 174 = some D174 := by rfl
theorem d178 : P.defs 178 = some D178 := by rfl
theorem d179 : P.defs 179 = some D179 := by rfl
theorem d180 : P.defs 180 = some D180 := by rfl
theorem d181 : P.defs 181 = some D181 := by rfl
theorem d182 : P.defs 182 = some D182 := by rfl
theorem d188 : P.defs 188 = some D188 := by rfl
theorem d189 : P.defs 189 = some D189 := by rfl
theorem d190 : P.defs 190 = some D190 := by rfl
theorem d191 : P.defs 191 = some D191 := by rfl
theorem d192 : P.defs 192 = some D192 := by rfl
theorem d193 : P.defs 193 = some D193 := by rfl
theorem d194 : P.defs 194 = some D194 := by rfl
theorem d195 : P.defs 195 = some D195 := by rfl
theorem d196 : P.defs 196 = some D196 := by rfl
theorem d197 : P.defs 197 = some D197 := by rfl
theorem d198 : P.defs 198 = some D198 := by rfl
theorem d199 : P.defs 199 = some D199 := by rfl
theorem d200 : P.defs 200 = some D200 := by rfl
theorem d201 : P.defs 201 = some D201 := by rfl
theorem d202 : P.defs 202 = some D202 := by rfl
theorem d204 : P.defs 204 = some D204 := by rfl
theorem d205 : P.defs 205 = some D205 := by rfl
theorem d206 : P.defs 206 = some D206 := by rfl
theorem d208 : P.defs 208 = some D208 := by rfl
theorem d209 : P.defs 209 = some D209 := by rfl
theorem d210 : P.defs 210 = some D210 := by rfl
theorem d211 : P.defs 211 = some D211 := by rfl
theorem d212 : P.defs 212 = some D212 := by rfl
theorem d213 : P.defs 213 = some D213 := by rfl
theorem d214 : P.defs 214 = some D214 := by rfl
theorem d215 : P.defs 215 = some D215 := by rfl
theorem d217 : P.defs 217 = some D217 := by rfl
theorem d218 : P.defs 218 = some D218 := by rfl
theorem d221 : P.defs 221 = some D221 := by rfl
theorem d225 : P.defs 225 = some D225 := by rfl
theorem d226 : P.defs 226 = some D226 := by rfl
theorem d227 : P.defs 227 = some D227 := by rfl
theorem d228 : P.defs 228 = some D228 := by rfl
end G
-- D_k01
set_option Elab.async false
set_option linter.all false
set_option maxRecDepth 100000
set_option maxHeartbeats 0
/-! The program of law k01, as the layer has it (printed by mklaw.py). -/
namespace Hd
open PySem PySem.Spec PyProof.Rows L2 Z
def top (i : Nat) : Stmt := PySem.Challenge.pw_schemasteps_k01_values_and_conversions.main.body.getD i (.Pass ⟨0, 0, 0, 0⟩)
def r1 : FnR := { x := "is_integer", id := 1, ps := ["value", "low", "high"], N := ["value", "low", "high"], mu := [], keep := false, lam := false, deep := false, args := defArgs (top 27), body := defBody (top 27), scope := defScope (top 27) }
def r2 : FnR := { x := "is_kind", id := 2, ps := ["value"], N := ["value"], mu := [], keep := false, lam := false, deep := false, args := defArgs (top 28), body := defBody (top 28), scope := defScope (top 28) }
def r3 : FnR := { x := "is_text", id := 3, ps := ["value"], N := ["value", "sign"], mu := [], keep := false, lam := false, deep := false, args := defArgs (top 29), body := defBody (top 29), scope := defScope (top 29) }
def r4 : FnR := { x := "is_such", id := 4, ps := ["kind", "value"], N := ["kind", "value"], mu := [], keep := false, lam := false, deep := false, args := defArgs (top 30), body := defBody (top 30), scope := defScope (top 30) }
def r5 : FnR := { x := "need_kind", id := 5, ps := ["value"], N := ["value"], mu := [], keep := false, lam := false, deep := false, args := defArgs (top 31), body := defBody (top 31), scope := defScope (top 31) }
def r6 : FnR := { x := "is_value", id := 6, ps := ["kind", "value"], N := ["kind", "value"], mu := [], keep := false, lam := false, deep := false, args := defArgs (top 32), body := defBody (top 32), scope := defScope (top 32) }
def r7 : FnR := { x := "kind_of", id := 7, ps := ["value"], N := ["value"], mu := [], keep := false, lam := false, deep := false, args := defArgs (top 33), body := defBody (top 33), scope := defScope (top 33) }
def r8 : FnR := { x := "integer_of", id := 8, ps := ["text"], N := ["text", "figures", "number", "sign"], mu := [], keep := false, lam := false, deep := false, args := defArgs (top 34), body := defBody (top 34), scope := defScope (top 34) }
def r9 : FnR := { x := "change_of", id := 9, ps := ["value", "kind"], N := ["value", "kind", "own", "number"], mu := [], keep := false, lam := false, deep := false, args := defArgs (top 35), body := defBody (top 35), scope := defScope (top 35) }
def r10 : FnR := { x := "converted", id := 10, ps := ["value", "kind"], N := ["value", "kind", "good", "found", "one"], mu := [], keep := false, lam := false, deep := false, args := defArgs (top 36), body := defBody (top 36), scope := defScope (top 36) }
def r11 : FnR := { x := "_law_source", id := 11, ps := ["script", "k"], N := ["script", "k", "cell"], mu := [], keep := true, lam := false, deep := true, args := defArgs (top 38), body := defBody (top 38), scope := defScope (top 38) }
def r12 : FnR := { x := "_law_pick", id := 12, ps := ["source", "size"], N := ["source", "size", "drawn", "wide"], mu := [], keep := false, lam := false, deep := false, args := defArgs (top 39), body := defBody (top 39), scope := defScope (top 39) }
def r13 : FnR := { x := "_law_of", id := 13, ps := ["source", "values"], N := ["source", "values"], mu := [], keep := false, lam := false, deep := false, args := defArgs (top 40), body := defBody (top 40), scope := defScope (top 40) }
def r14 : FnR := { x := "_law_values", id := 14, ps := ["source", "kind"], N := ["source", "kind"], mu := [], keep := false, lam := false, deep := false, args := defArgs (top 41), body := defBody (top 41), scope := defScope (top 41) }
def r15 : FnR := { x := "_law_kind", id := 15, ps := ["source"], N := ["source"], mu := [], keep := false, lam := false, deep := false, args := defArgs (top 42), body := defBody (top 42), scope := defScope (top 42) }
def r16 : FnR := { x := "_law_any_value", id := 16, ps := ["source", "deep"], N := ["source", "deep", "way", "items", "some", "turn"], mu := [], keep := false, lam := false, deep := false, args := defArgs (top 43), body := defBody (top 43), scope := defScope (top 43) }
def r17 : FnR := { x := "_law_is_integer", id := 17, ps := ["value", "low", "high"], N := ["value", "low", "high"], mu := [], keep := false, lam := false, deep := false, args := defArgs (top 44), body := defBody (top 44), scope := defScope (top 44) }
def r18 : FnR := { x := "_law_is_such", id := 18, ps := ["kind", "value"], N := ["kind", "value", "sign"], mu := [], keep := false, lam := false, deep := false, args := defArgs (top 45), body := defBody (top 45), scope := defScope (top 45) }
def r19 : FnR := { x := "_law_same", id := 19, ps := ["actual", "expected"], N := ["actual", "expected"], mu := [], keep := false, lam := false, deep := false, args := defArgs (top 46), body := defBody (top 46), scope := defScope (top 46) }
def r20 : FnR := { x := "_law_sort", id := 20, ps := ["value"], N := ["value"], mu := [], keep := false, lam := false, deep := false, args := defArgs (top 47), body := defBody (top 47), scope := defScope (top 47) }
def r21 : FnR := { x := "_law_text_of", id := 21, ps := ["value"], N := ["value"], mu := [], keep := false, lam := false, deep := false, args := defArgs (top 48), body := defBody (top 48), scope := defScope (top 48) }
def r22 : FnR := { x := "_law_convert", id := 22, ps := ["value", "kind"], N := ["value", "kind", "sort", "text", "plain", "number", "pairs", "sign"], mu := [], keep := false, lam := false, deep := false, args := defArgs (top 49), body := defBody (top 49), scope := defScope (top 49) }
def r23 : FnR := { x := "law", id := 23, ps := ["script"], N := ["script", "k", "source", "some", "value", "sorts", "kind", "odd", "due", "found", "later", "turn"], mu := [], keep := false, lam := true, deep := false, args := defArgs (top 53), body := defBody (top 53), scope := defScope (top 53) }
def rErr : FnR := { x := "_law_errors", id := 0, ps := ["e"], N := ["e", "some", "words", "found", "word", "good"], mu := [], keep := false, lam := false, deep := false, args := defArgs (top 50), body := defBody (top 50), scope := defScope (top 50) }
def rOut : FnR := { x := "_law_outcome", id := 0, ps := ["call"], N := ["call"], mu := [], keep := false, lam := false, deep := false, args := defArgs (top 51), body := defBody (top 51), scope := defScope (top 51) }
def rRai : FnR := { x := "_law_raises", id := 0, ps := ["call", "word"], N := ["call", "word"], mu := [], keep := false, lam := false, deep := false, args := defArgs (top 52), body := defBody (top 52), scope := defScope (top 52) }
def ld : LD := { defs := [r1, r2, r3, r4, r5, r6, r7, r8, r9, r10, r11, r12, r13, r14, r15, r16, r17, r18, r19, r20, r21, r22, r23], err := rErr, out := rOut, rai := rRai, hasL := true, hasR := true, cls := ["InvalidValue", "InvalidType", "CannotConvert", "InvalidSchema", "InvalidData", "InvalidStep", "InvalidScript", "InvalidNumber", "InvalidTable", "InvalidRow", "InvalidNames", "InvalidWish", "InvalidApp", "InvalidColumns", "InvalidRows", "LosesData", "Conflict", "TooMany", "NothingToUndo"], cons := [("TYPES", .tup [(.str [105, 110, 116]), (.str [116, 101, 120, 116]), (.str [102, 108, 97, 103])]), ("MOST", .int 1000000000), ("MOST_SIGNS", .int 30), ("FIGURES", .str [48, 49, 50, 51, 52, 53, 54, 55, 56, 57])], bs := ["all", "any", "bool", "int", "isinstance", "len", "max", "min", "range", "str", "tuple"] }
def bs : List (List S) := [G.b1, G.b2, G.b3, G.b4, G.b5, G.b6, G.b7, G.b8, G.b9, G.b10, G.b11, G.b12, G.b13, G.b14, G.b15, G.b16, G.b17, G.b18, G.b19, G.b20, G.b21, G.b22, G.b23]
theorem tr : mapO (fun r => r.tr ld.g) ld.defs = some bs := by kernel_rfl
theorem pz : (ld.rs bs).map (fun q => G.P.defs q.1.id) = (ld.rs bs).map fun q => some (q.1.def_ q.2) := by kernel_rfl
theorem ws : ld.cls.map (fun x => (Z.wordsOf x).cps.toList) = G.ws := by kernel_rfl
theorem txt : ld.Txt where
  errX := rfl
  outX := rfl
  raiX := rfl
  errA := by kernel_rfl
  outA := by kernel_rfl
  raiA := by kernel_rfl
  err := ⟨((errSc ld.err.body).getD (ld.err.scope, ld.err.scope)).1, ((errSc ld.err.body).getD (ld.err.scope, ld.err.scope)).2, by kernel_rfl, by kernel_rfl⟩
  out := by kernel_rfl
  rai := by kernel_rfl
  outS := by kernel_rfl
  raiS := by kernel_rfl
  outN := ⟨by kernel_rfl, by kernel_rfl⟩
  raiN := by kernel_rfl
  defs := by kernel_rfl
  word := by kernel_rfl
end Hd
-- ZP0
set_option Elab.async false
set_option linter.all false
set_option maxRecDepth 100000
set_option maxHeartbeats 1000000
/-! Layer ZP, part 0: the evaluator's equations; lists with effects; what a def leaves. -/
namespace Z
/-- a comprehension's turn -/
def cbody (C : Ctx) (own : List Nat) (elt : E) (t : T) (ifs : List E) (ρ : Env) (x : PV) (h : AH) : Res (Option PV) := match setT h t x (wipe ρ own) with
  | some ρ' => (evIfs C ifs ρ' h).bnd fun k h3 => match k with
    | true => (evE C elt ρ' h3).bnd fun v h4 => .ok (some v) h4
    | false => .ok none h3
  | none => .stuck
def cbody2 (C : Ctx) (own : List Nat) (elt : E) (t t2 : T) (it2 : I) (ifs : List E) (ρ : Env) (x : PV) (h : AH) : Res (List PV) := match setT h t x (wipe ρ own) with
  | some ρ' => (evI C it2 ρ' h).bnd fun q h3 => compL q.2 (cbody C t2.slots elt t2 ifs ρ') q.1 h3
  | none => .stuck
/-- a for's turn -/
def fbody (C : Ctx) (t : T) (b : List S) (x : PV) (ρ : Env) (h : AH) : Res Out := match setT h t x ρ with
  | some ρ' => evSs C b ρ' h
  | none => .stuck
def wcond (C : Ctx) (c : E) (ρ : Env) (h : AH) : Res Bool := (evE C c ρ h).bnd fun v h1 => ofO h1 (tru h1 v)
section
variable (C : Ctx) (ρ : Env) (h : AH)
@[simp] theorem evE_var (i : Nat) : evE C (.var i) ρ h = (match ρ[i]? with
    | some (some v) => .ok v h
    | _ => .stuck) := by
  simp only [evE]
  try rfl
@[simp] theorem evE_cst (v : PV) : evE C (.cst v) ρ h = .ok v h := by
  simp only [evE]
  try rfl
@[simp] theorem evE_tup (es : List E) : evE C (.tup es) ρ h = (evEs C es ρ h).bnd fun vs h1 => .ok (.tup vs) h1 := by
  simp only [evE]
  try rfl
@[simp] theorem evE_frz (a : A) : evE C (.frz a) ρ h = (evA C a ρ h).bnd fun m h1 => .ok (freezeMO m) h1 := by
  simp only [evE]
  try rfl
@[simp] theorem evE_mut (a : A) : evE C (.mut a) ρ h = (evA C a ρ h).bnd fun m h1 => .ok (.ref h1.length) (h1 ++ [m]) := by
  simp only [evE]
  try rfl
@[simp] theorem evE_bin (o : BOp) (a b : E) : evE C (.bin o a b) ρ h = (evE C a ρ h).bnd fun x h1 => (evE C b ρ h1).bnd fun y h2 => ofO h2 (binV h2 o x y) := by
  simp only [evE]
  try rfl
@[simp] theorem evE_neg (a : E) : evE C (.neg a) ρ h = (evE C a ρ h).bnd fun x h1 => (match x with
    | .int i => .ok (.int (-i)) h1
    | _ => .stuck) := by
  simp only [evE]
  try rfl
@[simp] theorem evE_not (a : E) : evE C (.not a) ρ h = (evE C a ρ h).bnd fun x h1 => (match tru h1 x with
    | some k => .ok (.bl !k) h1
    | none => .stuck) := by
  simp only [evE]
  try rfl
@[simp] theorem evE_cmp (o : COp) (a b : E) : evE C (.cmp o a b) ρ h = (evE C a ρ h).bnd fun x h1 => (evE C b ρ h1).bnd fun y h2 => ofO h2 ((cmpV h2 o x y).map .bl) := by
  simp only [evE]
  try rfl
@[simp] theorem evE_chain (o p : COp) (a b c : E) : evE C (.chain o p a b c) ρ h = (evE C a ρ h).bnd fun x h1 => (evE C b ρ h1).bnd fun y h2 => (match cmpV h2 o x y with
    | some true => (evE C c ρ h2).bnd fun z h3 => ofO h3 ((cmpV h3 p y z).map .bl)
    | some false => .ok (.bl false) h2
    | none => .stuck) := by
  simp only [evE]
  try rfl
@[simp] theorem evE_and (es : List E) : evE C (.and es) ρ h = evAnd C es ρ h := by
  simp only [evE]
  try rfl
@[simp] theorem evE_or (es : List E) : evE C (.or es) ρ h = evOr C es ρ h := by
  simp only [evE]
  try rfl
@[simp] theorem evE_ife (c a b : E) : evE C (.ife c a b) ρ h = (evE C c ρ h).bnd fun x h1 => (match tru h1 x with
    | some true => evE C a ρ h1
    | some false => evE C b ρ h1
    | none => .stuck) := by
  simp only [evE]
  try rfl
@[simp] theorem evE_call (f : Nat) (es : List E) : evE C (.call f es) ρ h = (evEs C es ρ h).bnd fun vs h1 => C.fn f vs h1 := by
  simp only [evE]
  try rfl
@[simp] theorem evE_bi (b : BI) (es : List E) : evE C (.bi b es) ρ h = (evEs C es ρ h).bnd fun vs h1 => ofO h1 (biV h1 b vs) := by
  simp only [evE]
  try rfl
@[simp] theorem evE_isi (a : E) (t : Ty) : evE C (.isi a t) ρ h = (evE C a ρ h).bnd fun x h1 => ofO h1 ((isiV h1 x t).map .bl) := by
  simp only [evE]
  try rfl
@[simp] theorem evE_meth (o : E) (m : Nat) (es : List E) : evE C (.meth o m es) ρ h = (evE C o ρ h).bnd fun x h1 => grd (rcv h1 x m) ((evEs C es ρ h1).bnd fun vs h2 => methV h2 x m vs) := by
  simp only [evE]
  try rfl
@[simp] theorem evE_sub (o i : E) : evE C (.sub o i) ρ h = (evE C o ρ h).bnd fun x h1 => (evE C i ρ h1).bnd fun y h2 => ofO h2 (subV h2 x y) := by
  simp only [evE]
  try rfl
@[simp] theorem evE_slc (o : E) (a b : List E) : evE C (.slc o a b) ρ h = (evE C o ρ h).bnd fun x h1 => (evP C a ρ h1).bnd fun y h2 => (evP C b ρ h2).bnd fun z h3 => ofO h3 (slcV h3 x y z) := by
  simp only [evE]
  try rfl
@[simp] theorem evE_lam (b : E) : evE C (.lam b) ρ h = outc C (evE C b ρ h) := by
  simp only [evE]
  try rfl
@[simp] theorem evE_lamR (b w : E) : evE C (.lamR b w) ρ h = (evE C w ρ h).bnd fun y h1 => (match y with
    | .str u => grd (decide (u.length ≤ 1000)) ((outc C (evE C b ρ h1)).bnd fun v h2 => ofO h2 ((cmpV h2 .eq v (.tup [.str sError, .str (u ++ sBase), .non])).map .bl))
    | _ => .stuck) := by
  simp only [evE]
  try rfl
@[simp] theorem evEs_nil : evEs C [] ρ h = .ok [] h := by
  simp only [evEs]
  try rfl
@[simp] theorem evEs_cons (e : E) (r : List E) : evEs C (e :: r) ρ h = (evE C e ρ h).bnd fun v h1 => (evEs C r ρ h1).bnd fun vs h2 => .ok (v :: vs) h2 := by
  simp only [evEs]
  try rfl
@[simp] theorem evP_nil : evP C [] ρ h = .ok none h := by
  simp only [evP]
  try rfl
@[simp] theorem evP_one (e : E) : evP C [e] ρ h = (evE C e ρ h).bnd fun v h1 => (match v with
    | .int i => .ok (some i) h1
    | _ => .stuck) := by
  simp only [evP]
  try rfl
@[simp] theorem evAnd_one (e : E) : evAnd C [e] ρ h = evE C e ρ h := by
  simp only [evAnd]
  try rfl
@[simp] theorem evAnd_cons (e a : E) (r : List E) : evAnd C (e :: a :: r) ρ h = (evE C e ρ h).bnd fun v h1 => (match tru h1 v with
    | some true => evAnd C (a :: r) ρ h1
    | some false => .ok v h1
    | none => .stuck) := by
  simp only [evAnd]
  try rfl
@[simp] theorem evOr_one (e : E) : evOr C [e] ρ h = evE C e ρ h := by
  simp only [evOr]
  try rfl
@[simp] theorem evOr_cons (e a : E) (r : List E) : evOr C (e :: a :: r) ρ h = (evE C e ρ h).bnd fun v h1 => (match tru h1 v with
    | some true => .ok v h1
    | some false => evOr C (a :: r) ρ h1
    | none => .stuck) := by
  simp only [evOr]
  try rfl
@[simp] theorem evA_disp (es : List E) : evA C (.disp es) ρ h = (evEs C es ρ h).bnd fun vs h1 => .ok (.lst vs) h1 := by
  simp only [evA]
  try rfl
@[simp] theorem evA_comp (own : List Nat) (elt : E) (t : T) (it : I) (ifs : List E) : evA C (.comp own elt t it ifs) ρ h = (evI C it ρ h).bnd fun p h1 => (compL p.2 (cbody C own elt t ifs ρ) p.1 h1).bnd fun vs h2 => grd (decide (vs.length ≤ zLine)) (.ok (.lst vs) h2) := by
  simp only [evA]
  rfl
@[simp] theorem evA_comp2 (own : List Nat) (elt : E) (t : T) (it : I) (t2 : T) (it2 : I) (ifs : List E) : evA C (.comp2 own elt t it t2 it2 ifs) ρ h = (evI C it ρ h).bnd fun p h1 => (compL2 p.2 (cbody2 C own elt t t2 it2 ifs ρ) p.1 h1).bnd fun vs h2 => grd (decide (vs.length ≤ zLine)) (.ok (.lst vs) h2) := by
  simp only [evA]
  rfl
@[simp] theorem evA_listof (a : E) : evA C (.listof a) ρ h = (evE C a ρ h).bnd fun x h1 => ofO h1 ((seqOf h1 x).map .lst) := by
  simp only [evA]
  try rfl
@[simp] theorem evA_dict0 : evA C .dict0 ρ h = .ok (.dct [] []) h := by
  simp only [evA]
  try rfl
@[simp] theorem evA_ddisp (ks : List PV) (es : List E) : evA C (.ddisp ks es) ρ h = (evEs C es ρ h).bnd fun vs h1 => grd (decide (ks.length = vs.length)) (.ok (.dct ks vs) h1) := by
  simp only [evA]
  try rfl
@[simp] theorem evI_val (e : E) : evI C (.val e) ρ h = (evE C e ρ h).bnd fun v h1 => ofO h1 (itSeq h1 v) := by
  simp only [evI]
  try rfl
@[simp] theorem evI_rng (a b : E) : evI C (.rng a b) ρ h = (evE C a ρ h).bnd fun x h1 => (evE C b ρ h1).bnd fun y h2 => (match x, y with
    | .int i, .int j => grd (small i && small j && decide (i.natAbs < 2 ^ 62) && decide (j.natAbs < 2 ^ 62) && decide (j - i ≤ 1000000)) (.ok (rngL i (j - i).toNat, none) h2)
    | _, _ => .stuck) := by
  simp only [evI]
  try rfl
@[simp] theorem evI_enum (e : E) : evI C (.enum e) ρ h = (evE C e ρ h).bnd fun v h1 => ofO h1 (enSeq h1 v) := by
  simp only [evI]
  try rfl
@[simp] theorem evI_zip (a b : E) : evI C (.zip [a, b]) ρ h = (evE C a ρ h).bnd fun x h1 => (evE C b ρ h1).bnd fun y h2 => (match zipSeq x y with
    | some xs => .ok (xs, none) h2
    | none => .stuck) := by
  simp only [evI, evEs_cons, evEs_nil]
  cases evE C a ρ h with
  | ok x h1 =>
    simp only [Res.bnd_ok]
    cases evE C b ρ h1 with
    | ok y h2 => rfl
    | exc x h => rfl
    | stuck => rfl
  | exc x h => rfl
  | stuck => rfl
@[simp] theorem evIfs_nil : evIfs C [] ρ h = .ok true h := by
  simp only [evIfs]
  try rfl
@[simp] theorem evIfs_one (e : E) : evIfs C [e] ρ h = (evE C e ρ h).bnd fun v h1 => ofO h1 (tru h1 v) := by
  simp only [evIfs]
  try rfl
@[simp] theorem evS_asg (i : Nat) (e : E) : evS C (.asg i e) ρ h = (evE C e ρ h).bnd fun v h1 => grd (decide (i < ρ.length)) (.ok (.next (ρ.set i (some v))) h1) := by
  simp only [evS]
  try rfl
@[simp] theorem evS_asgT (t : T) (e : E) : evS C (.asgT t e) ρ h = (evE C e ρ h).bnd fun v h1 => ofO h1 ((setT h1 t v ρ).map .next) := by
  simp only [evS]
  try rfl
@[simp] theorem evS_asgI (o i e : E) : evS C (.asgI o i e) ρ h = (evE C e ρ h).bnd fun v h1 => (evE C o ρ h1).bnd fun x h2 => (evE C i ρ h2).bnd fun y h3 => (match x with
    | .ref n => match h3[n]?, y with
      | some (.lst xs), .int j => match ixOf xs.length j with
        | some m => .ok (.next ρ) (h3.set n (.lst (xs.set m v)))
        | none => .stuck
      | some (.dct ks ws), _ => grd (keyOk y && decide (ks.length < 1000000)) (.ok (.next ρ) (h3.set n (.dct (putK y v ks ws).1 (putK y v ks ws).2)))
      | _, _ => .stuck
    | _ => .stuck) := by
  simp only [evS]
  try rfl
@[simp] theorem evS_aug (i : Nat) (o : BOp) (e : E) : evS C (.aug i o e) ρ h = (match ρ[i]? with
    | some (some x) => (evE C e ρ h).bnd fun y h1 => match x, y with
      | .int _, .int _ => ofO h1 ((binV h1 o x y).map fun z => .next (ρ.set i (some z)))
      | _, _ => .stuck
    | _ => .stuck) := by
  simp only [evS]
  try rfl
@[simp] theorem evS_expr (e : E) : evS C (.expr e) ρ h = (evE C e ρ h).bnd fun _ h1 => .ok (.next ρ) h1 := by
  simp only [evS]
  try rfl
@[simp] theorem evS_ret (e : E) : evS C (.ret e) ρ h = (evE C e ρ h).bnd fun v h1 => .ok (.ret v) h1 := by
  simp only [evS]
  try rfl
@[simp] theorem evS_ife (c : E) (a b : List S) : evS C (.ife c a b) ρ h = (evE C c ρ h).bnd fun v h1 => (match tru h1 v with
    | some true => evSs C a ρ h1
    | some false => evSs C b ρ h1
    | none => .stuck) := by
  simp only [evS]
  try rfl
@[simp] theorem evS_whl (c : E) (b : List S) : evS C (.whl c b) ρ h = whlL (wcond C c) (evSs C b) C.wf ρ h := by
  simp only [evS]
  rfl
@[simp] theorem evS_for (t : T) (it : I) (b : List S) : evS C (.for t it b) ρ h = (evI C it ρ h).bnd fun p h1 => forL p.2 (fbody C t b) p.1 ρ h1 := by
  simp only [evS]
  rfl
@[simp] theorem evS_raise (c : Nat) : evS C (.raise c) ρ h = .exc ⟨c, none⟩ h := by
  simp only [evS]
  try rfl
@[simp] theorem evS_pass : evS C .pass ρ h = .ok (.next ρ) h := by
  simp only [evS]
  try rfl
@[simp] theorem evSs_nil : evSs C [] ρ h = .ok (.next ρ) h := by
  simp only [evSs]
  try rfl
@[simp] theorem evSs_cons (s : S) (r : List S) : evSs C (s :: r) ρ h = (evS C s ρ h).bnd fun o h1 => (match o with
    | .next ρ' => evSs C r ρ' h1
    | .ret v => .ok (.ret v) h1) := by
  simp only [evSs]
  try rfl
end
end Z
-- ZPx
set_option Elab.async false
set_option linter.all false
set_option maxRecDepth 100000
/-! Layer ZP: the evaluator's functions at constructors (printed by mkzpx.py). -/
namespace Z
section
variable (h : AH)
@[simp] theorem isi_non_int  : isiV h .non .int = some false := id rfl
@[simp] theorem isi_non_bool  : isiV h .non .bool = some false := id rfl
@[simp] theorem isi_non_str  : isiV h .non .str = some false := id rfl
@[simp] theorem isi_non_tup  : isiV h .non .tup = some false := id rfl
@[simp] theorem isi_non_lst  : isiV h .non .lst = some false := id rfl
@[simp] theorem isi_bl_int (b : Bool) : isiV h (.bl b) .int = some true := id rfl
@[simp] theorem isi_bl_bool (b : Bool) : isiV h (.bl b) .bool = some true := id rfl
@[simp] theorem isi_bl_str (b : Bool) : isiV h (.bl b) .str = some false := id rfl
@[simp] theorem isi_bl_tup (b : Bool) : isiV h (.bl b) .tup = some false := id rfl
@[simp] theorem isi_bl_lst (b : Bool) : isiV h (.bl b) .lst = some false := id rfl
@[simp] theorem isi_int_int (i : Int) : isiV h (.int i) .int = some true := id rfl
@[simp] theorem isi_int_bool (i : Int) : isiV h (.int i) .bool = some false := id rfl
@[simp] theorem isi_int_str (i : Int) : isiV h (.int i) .str = some false := id rfl
@[simp] theorem isi_int_tup (i : Int) : isiV h (.int i) .tup = some false := id rfl
@[simp] theorem isi_int_lst (i : Int) : isiV h (.int i) .lst = some false := id rfl
@[simp] theorem isi_str_int (x : List Nat) : isiV h (.str x) .int = some false := id rfl
@[simp] theorem isi_str_bool (x : List Nat) : isiV h (.str x) .bool = some false := id rfl
@[simp] theorem isi_str_str (x : List Nat) : isiV h (.str x) .str = some true := id rfl
@[simp] theorem isi_str_tup (x : List Nat) : isiV h (.str x) .tup = some false := id rfl
@[simp] theorem isi_str_lst (x : List Nat) : isiV h (.str x) .lst = some false := id rfl
@[simp] theorem isi_tup_int (xs : List PV) : isiV h (.tup xs) .int = some false := id rfl
@[simp] theorem isi_tup_bool (xs : List PV) : isiV h (.tup xs) .bool = some false := id rfl
@[simp] theorem isi_tup_str (xs : List PV) : isiV h (.tup xs) .str = some false := id rfl
@[simp] theorem isi_tup_tup (xs : List PV) : isiV h (.tup xs) .tup = some true := id rfl
@[simp] theorem isi_tup_lst (xs : List PV) : isiV h (.tup xs) .lst = some false := id rfl
@[simp] theorem isi_lst_int (ls : List PV) : isiV h (.lst ls) .int = some false := id rfl
@[simp] theorem isi_lst_bool (ls : List PV) : isiV h (.lst ls) .bool = some false := id rfl
@[simp] theorem isi_lst_str (ls : List PV) : isiV h (.lst ls) .str = some false := id rfl
@[simp] theorem isi_lst_tup (ls : List PV) : isiV h (.lst ls) .tup = some false := id rfl
@[simp] theorem isi_lst_lst (ls : List PV) : isiV h (.lst ls) .lst = some true := id rfl
@[simp] theorem tru_non  : tru h .non = some false := id rfl
@[simp] theorem look_non  : look h .non = .non := id rfl
@[simp] theorem isD_non  : PV.isD .non = true := id rfl
@[simp] theorem depth_non  : PV.depth .non = 0 := id rfl
@[simp] theorem is_non_non  : cmpV h .is .non .non = some true := id rfl
@[simp] theorem isn_non_non  : cmpV h .isn .non .non = some false := id rfl
@[simp] theorem tru_bl (b : Bool) : tru h (.bl b) = some b := id rfl
@[simp] theorem look_bl (b : Bool) : look h (.bl b) = (.bl b) := id rfl
@[simp] theorem isD_bl (b : Bool) : PV.isD (.bl b) = true := id rfl
@[simp] theorem depth_bl (b : Bool) : PV.depth (.bl b) = 0 := id rfl
@[simp] theorem is_non_bl (b : Bool) : cmpV h .is (.bl b) .non = some false := id rfl
@[simp] theorem isn_non_bl (b : Bool) : cmpV h .isn (.bl b) .non = some true := id rfl
@[simp] theorem tru_int (i : Int) : tru h (.int i) = some (i != 0) := id rfl
@[simp] theorem look_int (i : Int) : look h (.int i) = (.int i) := id rfl
@[simp] theorem isD_int (i : Int) : PV.isD (.int i) = true := id rfl
@[simp] theorem depth_int (i : Int) : PV.depth (.int i) = 0 := id rfl
@[simp] theorem is_non_int (i : Int) : cmpV h .is (.int i) .non = some false := id rfl
@[simp] theorem isn_non_int (i : Int) : cmpV h .isn (.int i) .non = some true := id rfl
@[simp] theorem tru_str (x : List Nat) : tru h (.str x) = some (!x.isEmpty) := id rfl
@[simp] theorem look_str (x : List Nat) : look h (.str x) = (.str x) := id rfl
@[simp] theorem isD_str (x : List Nat) : PV.isD (.str x) = true := id rfl
@[simp] theorem depth_str (x : List Nat) : PV.depth (.str x) = 0 := id rfl
@[simp] theorem is_non_str (x : List Nat) : cmpV h .is (.str x) .non = some false := id rfl
@[simp] theorem isn_non_str (x : List Nat) : cmpV h .isn (.str x) .non = some true := id rfl
@[simp] theorem tru_tup (xs : List PV) : tru h (.tup xs) = some (!xs.isEmpty) := id rfl
@[simp] theorem look_tup (xs : List PV) : look h (.tup xs) = (.tup xs) := id rfl
@[simp] theorem isD_tup (xs : List PV) : PV.isD (.tup xs) = isDs xs := id rfl
@[simp] theorem depth_tup (xs : List PV) : PV.depth (.tup xs) = depths xs + 1 := id rfl
@[simp] theorem is_non_tup (xs : List PV) : cmpV h .is (.tup xs) .non = some false := id rfl
@[simp] theorem isn_non_tup (xs : List PV) : cmpV h .isn (.tup xs) .non = some true := id rfl
@[simp] theorem tru_lst (ls : List PV) : tru h (.lst ls) = some (!ls.isEmpty) := id rfl
@[simp] theorem look_lst (ls : List PV) : look h (.lst ls) = (.lst ls) := id rfl
@[simp] theorem isD_lst (ls : List PV) : PV.isD (.lst ls) = isDs ls := id rfl
@[simp] theorem depth_lst (ls : List PV) : PV.depth (.lst ls) = depths ls + 1 := id rfl
@[simp] theorem is_non_lst (ls : List PV) : cmpV h .is (.lst ls) .non = some false := id rfl
@[simp] theorem isn_non_lst (ls : List PV) : cmpV h .isn (.lst ls) .non = some true := id rfl
@[simp] theorem isDs_nil : isDs [] = true := id rfl
@[simp] theorem isDs_cons (x : PV) (r : List PV) : isDs (x :: r) = (x.isD && isDs r) := id rfl
@[simp] theorem depths_nil : depths [] = 0 := id rfl
@[simp] theorem depths_cons (x : PV) (r : List PV) : depths (x :: r) = max x.depth (depths r) := id rfl
@[simp] theorem eqPs_nil : eqPs [] [] = true := id rfl
@[simp] theorem eqPs_nc (x : PV) (r : List PV) : eqPs [] (x :: r) = false := id rfl
@[simp] theorem eqPs_cn (x : PV) (r : List PV) : eqPs (x :: r) [] = false := id rfl
@[simp] theorem eqPs_cc (x y : PV) (r s : List PV) : eqPs (x :: r) (y :: s) = (eqP x y && eqPs r s) := id rfl
@[simp] theorem eqP_non_non   : eqP .non .non = true := id rfl
@[simp] theorem eqP_non_bl  (b2 : Bool) : eqP .non (.bl b2) = false := id rfl
@[simp] theorem eqP_non_int  (i2 : Int) : eqP .non (.int i2) = false := id rfl
@[simp] theorem eqP_non_str  (x2 : List Nat) : eqP .non (.str x2) = false := id rfl
@[simp] theorem eqP_non_tup  (xs2 : List PV) : eqP .non (.tup xs2) = false := id rfl
@[simp] theorem eqP_non_lst  (ls2 : List PV) : eqP .non (.lst ls2) = false := id rfl
@[simp] theorem eqP_bl_non (b : Bool)  : eqP (.bl b) .non = false := id rfl
@[simp] theorem eqP_bl_bl (b : Bool) (b2 : Bool) : eqP (.bl b) (.bl b2) = (b == b2) := id rfl
@[simp] theorem eqP_bl_int (b : Bool) (i2 : Int) : eqP (.bl b) (.int i2) = (b2i b == i2) := id rfl
@[simp] theorem eqP_bl_str (b : Bool) (x2 : List Nat) : eqP (.bl b) (.str x2) = false := id rfl
@[simp] theorem eqP_bl_tup (b : Bool) (xs2 : List PV) : eqP (.bl b) (.tup xs2) = false := id rfl
@[simp] theorem eqP_bl_lst (b : Bool) (ls2 : List PV) : eqP (.bl b) (.lst ls2) = false := id rfl
@[simp] theorem eqP_int_non (i : Int)  : eqP (.int i) .non = false := id rfl
@[simp] theorem eqP_int_bl (i : Int) (b2 : Bool) : eqP (.int i) (.bl b2) = (i == b2i b2) := id rfl
@[simp] theorem eqP_int_int (i : Int) (i2 : Int) : eqP (.int i) (.int i2) = (i == i2) := id rfl
@[simp] theorem eqP_int_str (i : Int) (x2 : List Nat) : eqP (.int i) (.str x2) = false := id rfl
@[simp] theorem eqP_int_tup (i : Int) (xs2 : List PV) : eqP (.int i) (.tup xs2) = false := id rfl
@[simp] theorem eqP_int_lst (i : Int) (ls2 : List PV) : eqP (.int i) (.lst ls2) = false := id rfl
@[simp] theorem eqP_str_non (x : List Nat)  : eqP (.str x) .non = false := id rfl
@[simp] theorem eqP_str_bl (x : List Nat) (b2 : Bool) : eqP (.str x) (.bl b2) = false := id rfl
@[simp] theorem eqP_str_int (x : List Nat) (i2 : Int) : eqP (.str x) (.int i2) = false := id rfl
@[simp] theorem eqP_str_str (x : List Nat) (x2 : List Nat) : eqP (.str x) (.str x2) = decide (x = x2) := id rfl
@[simp] theorem eqP_str_tup (x : List Nat) (xs2 : List PV) : eqP (.str x) (.tup xs2) = false := id rfl
@[simp] theorem eqP_str_lst (x : List Nat) (ls2 : List PV) : eqP (.str x) (.lst ls2) = false := id rfl
@[simp] theorem eqP_tup_non (xs : List PV)  : eqP (.tup xs) .non = false := id rfl
@[simp] theorem eqP_tup_bl (xs : List PV) (b2 : Bool) : eqP (.tup xs) (.bl b2) = false := id rfl
@[simp] theorem eqP_tup_int (xs : List PV) (i2 : Int) : eqP (.tup xs) (.int i2) = false := id rfl
@[simp] theorem eqP_tup_str (xs : List PV) (x2 : List Nat) : eqP (.tup xs) (.str x2) = false := id rfl
@[simp] theorem eqP_tup_tup (xs : List PV) (xs2 : List PV) : eqP (.tup xs) (.tup xs2) = eqPs xs xs2 := id rfl
@[simp] theorem eqP_tup_lst (xs : List PV) (ls2 : List PV) : eqP (.tup xs) (.lst ls2) = false := id rfl
@[simp] theorem eqP_lst_non (ls : List PV)  : eqP (.lst ls) .non = false := id rfl
@[simp] theorem eqP_lst_bl (ls : List PV) (b2 : Bool) : eqP (.lst ls) (.bl b2) = false := id rfl
@[simp] theorem eqP_lst_int (ls : List PV) (i2 : Int) : eqP (.lst ls) (.int i2) = false := id rfl
@[simp] theorem eqP_lst_str (ls : List PV) (x2 : List Nat) : eqP (.lst ls) (.str x2) = false := id rfl
@[simp] theorem eqP_lst_tup (ls : List PV) (xs2 : List PV) : eqP (.lst ls) (.tup xs2) = false := id rfl
@[simp] theorem eqP_lst_lst (ls : List PV) (ls2 : List PV) : eqP (.lst ls) (.lst ls2) = eqPs ls ls2 := id rfl
theorem look_D {x : PV} (hx : x.isD = true) : look h x = x := by
  cases x <;> first | rfl | cases hx
theorem cmp_eq {x y : PV} (hx : x.isD = true) (hy : y.isD = true) (hd : min x.depth y.depth ≤ 64) : cmpV h .eq x y = some (eqP x y) := by
  simp [cmpV, eqV, look_D h hx, look_D h hy, hx, hy, hd]
theorem cmp_ne {x y : PV} (hx : x.isD = true) (hy : y.isD = true) (hd : min x.depth y.depth ≤ 64) : cmpV h .ne x y = some (!eqP x y) := by
  simp [cmpV, eqV, look_D h hx, look_D h hy, hx, hy, hd]
@[simp] theorem cmp_lt_int (i j : Int) : cmpV h .lt (.int i) (.int j) = some (decide (i < j)) := id rfl
@[simp] theorem cmp_le_int (i j : Int) : cmpV h .le (.int i) (.int j) = some (decide (i ≤ j)) := id rfl
@[simp] theorem cmp_gt_int (i j : Int) : cmpV h .gt (.int i) (.int j) = some (decide (j < i)) := id rfl
@[simp] theorem cmp_ge_int (i j : Int) : cmpV h .ge (.int i) (.int j) = some (decide (j ≤ i)) := id rfl
@[simp] theorem cmp_lt_str (a b : List Nat) : cmpV h .lt (.str a) (.str b) = some (decide (a < b)) := id rfl
@[simp] theorem cmp_le_str (a b : List Nat) : cmpV h .le (.str a) (.str b) = some (!decide (b < a)) := id rfl
@[simp] theorem cmp_eq_str (a b : List Nat) : cmpV h .eq (.str a) (.str b) = some (decide (a = b)) := id rfl
@[simp] theorem cmp_ne_str (a b : List Nat) : cmpV h .ne (.str a) (.str b) = some (!decide (a = b)) := id rfl
@[simp] theorem cmp_eq_int (a b : Int) : cmpV h .eq (.int a) (.int b) = some (a == b) := id rfl
@[simp] theorem cmp_ne_int (a b : Int) : cmpV h .ne (.int a) (.int b) = some (!(a == b)) := id rfl
theorem cmp_in_tup {x : PV} {ys : List PV} (hx : x.isD = true) (hy : isDs ys = true) (hd : min x.depth (depths ys) ≤ 60) : cmpV h .isin x (.tup ys) = some (ys.any fun z => eqP z x) := by
  simp [cmpV, inV, dctOf, seqOf, look_D h hx, hx, hy, hd]
theorem cmp_in_lst {x : PV} {ys : List PV} (hx : x.isD = true) (hy : isDs ys = true) (hd : min x.depth (depths ys) ≤ 60) : cmpV h .isin x (.lst ys) = some (ys.any fun z => eqP z x) := by
  simp [cmpV, inV, dctOf, seqOf, look_D h hx, hx, hy, hd]
theorem cmp_nin_tup {x : PV} {ys : List PV} (hx : x.isD = true) (hy : isDs ys = true) (hd : min x.depth (depths ys) ≤ 60) : cmpV h .nin x (.tup ys) = some (!(ys.any fun z => eqP z x)) := by
  simp [cmpV, inV, dctOf, seqOf, look_D h hx, hx, hy, hd]
theorem cmp_nin_lst {x : PV} {ys : List PV} (hx : x.isD = true) (hy : isDs ys = true) (hd : min x.depth (depths ys) ≤ 60) : cmpV h .nin x (.lst ys) = some (!(ys.any fun z => eqP z x)) := by
  simp [cmpV, inV, dctOf, seqOf, look_D h hx, hx, hy, hd]
@[simp] theorem cmp_in_str (c : Nat) (b : List Nat) : cmpV h .isin (.str [c]) (.str b) = some (b.contains c) := id rfl
@[simp] theorem cmp_nin_str (c : Nat) (b : List Nat) : cmpV h .nin (.str [c]) (.str b) = some (!b.contains c) := id rfl
@[simp] theorem cmp_in_dct (x : List Nat) (ks vs : List PV) : cmpV h .isin (.str x) (.dct ks vs) = some (ks.any fun z => eqP z (.str x)) := id rfl
@[simp] theorem cmp_nin_dct (x : List Nat) (ks vs : List PV) : cmpV h .nin (.str x) (.dct ks vs) = some (!(ks.any fun z => eqP z (.str x))) := id rfl
@[simp] theorem sub_dct (x : List Nat) (ks vs : List PV) : subV h (.dct ks vs) (.str x) = getK (.str x) ks vs := id rfl
@[simp] theorem getK_cons (x k v : PV) (ks vs : List PV) : getK x (k :: ks) (v :: vs) = if eqP k x = true then some v else getK x ks vs := id rfl
@[simp] theorem getK_nil (x : PV) (vs : List PV) : getK x [] vs = none := by cases vs <;> rfl
@[simp] theorem rcv_dct (ks vs : List PV) : rcv h (.dct ks vs) 7 = true := id rfl
@[simp] theorem meth_get (ks vs : List PV) (x : List Nat) (d : PV) : methV h (.dct ks vs) 7 [.str x, d] = .ok ((getK (.str x) ks vs).getD d) h := id rfl
@[simp] theorem len_str (x : List Nat) : biV h .len [.str x] = some (.int x.length) := id rfl
@[simp] theorem len_tup (xs : List PV) : biV h .len [.tup xs] = some (.int xs.length) := id rfl
@[simp] theorem len_lst (xs : List PV) : biV h .len [.lst xs] = some (.int xs.length) := id rfl
@[simp] theorem all_lst (xs : List PV) : biV h .all [.lst xs] = (allB xs).map fun bs => .bl (bs.all id) := by
  show ((allB xs).map fun bs => PV.bl (bs.all id)) = _
  rfl
@[simp] theorem any_lst (xs : List PV) : biV h .any [.lst xs] = (allB xs).map fun bs => .bl (bs.any id) := by
  show ((allB xs).map fun bs => PV.bl (bs.any id)) = _
  rfl
@[simp] theorem tuple_lst (xs : List PV) : biV h .tuple [.lst xs] = some (.tup xs) := id rfl
@[simp] theorem tuple_tup (xs : List PV) : biV h .tuple [.tup xs] = some (.tup xs) := id rfl
@[simp] theorem str_bl (b : Bool) : biV h .str [.bl b] = some (.str (if b then [84, 114, 117, 101] else [70, 97, 108, 115, 101])) := by cases b <;> rfl
@[simp] theorem str_str (x : List Nat) : biV h .str [.str x] = some (.str x) := id rfl
@[simp] theorem str_non : biV h .str [.non] = some (.str [78, 111, 110, 101]) := id rfl
theorem str_int {i : Int} (hi : i.natAbs < 2 ^ 1900) : biV h .str [.int i] = some (.str (strI i)) := by
  show ocond (decide (i.natAbs < 2 ^ 1900)) _ = _
  rw [decide_eq_true hi]
  rfl
@[simp] theorem int_bl (b : Bool) : biV h .int [.bl b] = some (.int (b2i b)) := id rfl
@[simp] theorem int_int (i : Int) : biV h .int [.int i] = some (.int i) := id rfl
@[simp] theorem int_str (x : List Nat) : biV h .int [.str x] = (intOf x).map .int := id rfl
@[simp] theorem min_int (i j : Int) : biV h .min [.int i, .int j] = some (.int (if j < i then j else i)) := id rfl
@[simp] theorem max_int (i j : Int) : biV h .max [.int i, .int j] = some (.int (if i < j then j else i)) := id rfl
@[simp] theorem itV_tup (xs : List PV) : itSeq h (.tup xs) = some (xs, none) := id rfl
@[simp] theorem itV_lst (xs : List PV) : itSeq h (.lst xs) = some (xs, none) := id rfl
@[simp] theorem itV_str (x : List Nat) : itSeq h (.str x) = some (x.map fun c => .str [c], none) := id rfl
@[simp] theorem en_tup (xs : List PV) : enSeq h (.tup xs) = some (enumFrom 0 xs, none) := id rfl
@[simp] theorem en_lst (xs : List PV) : enSeq h (.lst xs) = some (enumFrom 0 xs, none) := id rfl
@[simp] theorem add_int (i j : Int) : binV h .add (.int i) (.int j) = some (.int (i + j)) := id rfl
@[simp] theorem sub_int (i j : Int) : binV h .sub (.int i) (.int j) = some (.int (i - j)) := id rfl
theorem add_str {a b : List Nat} (hl : a.length + b.length ≤ zLine) : binV h .add (.str a) (.str b) = some (.str (a ++ b)) := by
  show ocond (decide _) _ = _
  rw [decide_eq_true hl]
  rfl
theorem add_tup {a b : List PV} (hl : a.length + b.length ≤ zLine) : binV h .add (.tup a) (.tup b) = some (.tup (a ++ b)) := by
  show ocond (decide _) _ = _
  rw [decide_eq_true hl]
  rfl
theorem add_lst {a b : List PV} (hl : a.length + b.length ≤ zLine) : binV h .add (.lst a) (.lst b) = some (.lst (a ++ b)) := by
  show (ocond (decide _) _).map freezeMO = _
  rw [decide_eq_true hl]
  rfl
@[simp] theorem frz_mo_lst (xs : List PV) : freezeMO (.lst xs) = .lst xs := id rfl
@[simp] theorem frz_mo_dct (ks vs : List PV) : freezeMO (.dct ks vs) = .dct ks vs := id rfl
@[simp] theorem subV_tup (xs : List PV) (i : Int) : subV h (.tup xs) (.int i) = atL xs i := id rfl
@[simp] theorem subV_lst (xs : List PV) (i : Int) : subV h (.lst xs) (.int i) = atL xs i := id rfl
@[simp] theorem slc_str (x : List Nat) (lo hi : Option Int) : slcV h (.str x) lo hi = some (.str (cutL x lo hi)) := id rfl
@[simp] theorem slc_tup (x : List PV) (lo hi : Option Int) : slcV h (.tup x) lo hi = some (.tup (cutL x lo hi)) := id rfl
@[simp] theorem slc_lst (x : List PV) (lo hi : Option Int) : slcV h (.lst x) lo hi = some (.lst (cutL x lo hi)) := id rfl
theorem atL_nat {α : Type} {xs : List α} {n : Nat} : atL xs (n : Int) = xs[n]? := by
  unfold atL ixOf
  by_cases hn : n < xs.length
  · simp [hn]
  · rw [if_pos (by omega), if_neg (by omega)]
    simp [List.getElem?_eq_none (by omega : xs.length ≤ n)]
@[simp] theorem atL_0 {α : Type} (x : α) (r : List α) : atL (x :: r) 0 = some x := by
  have := atL_nat (xs := x :: r) (n := 0)
  simpa using this
@[simp] theorem atL_1 {α : Type} (x y : α) (r : List α) : atL (x :: y :: r) 1 = some y := by
  have := atL_nat (xs := x :: y :: r) (n := 1)
  simpa using this
@[simp] theorem atL_2 {α : Type} (x y z : α) (r : List α) : atL (x :: y :: z :: r) 2 = some z := by
  have := atL_nat (xs := x :: y :: z :: r) (n := 2)
  simpa using this
@[simp] theorem atL_3 {α : Type} (x y z u : α) (r : List α) : atL (x :: y :: z :: u :: r) 3 = some u := by
  have := atL_nat (xs := x :: y :: z :: u :: r) (n := 3)
  simpa using this
@[simp] theorem atL_4 {α : Type} (x y z u w : α) (r : List α) : atL (x :: y :: z :: u :: w :: r) 4 = some w := by
  have := atL_nat (xs := x :: y :: z :: u :: w :: r) (n := 4)
  simpa using this
@[simp] theorem setT_name (i : Nat) (v : PV) (ρ : Env) : setT h (.name i) v ρ = ocond (decide (i < ρ.length)) (ρ.set i (some v)) := by
  simp only [setT]
theorem setT_tup {ts : List T} {v : PV} {xs : List PV} {ρ : Env} (e : seqOf h v = some xs) : setT h (.tup ts) v ρ = setTs h ts xs ρ := by
  simp only [setT, e]
@[simp] theorem setT_tupT (ts : List T) (xs : List PV) (ρ : Env) : setT h (.tup ts) (.tup xs) ρ = setTs h ts xs ρ := by
  simp only [setT, seqOf]
@[simp] theorem setT_tupL (ts : List T) (xs : List PV) (ρ : Env) : setT h (.tup ts) (.lst xs) ρ = setTs h ts xs ρ := by
  simp only [setT, seqOf]
@[simp] theorem setTs_nil (ρ : Env) : setTs h [] [] ρ = some ρ := by
  simp only [setTs]
@[simp] theorem setTs_cons (t : T) (ts : List T) (x : PV) (xs : List PV) (ρ : Env) : setTs h (t :: ts) (x :: xs) ρ = (setT h t x ρ).bind fun ρ' => setTs h ts xs ρ' := by
  simp only [setTs]
@[simp] theorem wipe_nil (ρ : Env) : wipe ρ [] = ρ := id rfl
@[simp] theorem wipe_cons (ρ : Env) (i : Nat) (r : List Nat) : wipe ρ (i :: r) = (wipe ρ r).set i none := id rfl
end
end Z
-- ZP1
set_option Elab.async false
set_option linter.all false
set_option maxRecDepth 100000
set_option maxHeartbeats 1000000
/-! Layer ZP, part 1: data, what a def leaves, loops. -/
namespace Z
/-! ### data are frozen as they are -/
mutual
theorem frz_D {h : AH} {n : Nat} : ∀ (v : PV) (k : Nat), v.isD = true → 2 * v.depth + 1 ≤ k → frz h n k v = some v
  | .non, k + 1, _, _ => by simp [frz]
  | .bl _, k + 1, _, _ => by simp [frz]
  | .int _, k + 1, _, _ => by simp [frz]
  | .str _, k + 1, _, _ => by simp [frz]
  | .tup xs, k + 1, hd, hk => by
    have hk' : 2 * (depths xs + 1) + 1 ≤ k + 1 := hk
    have := frzs_D (h := h) (n := n) xs k hd (by omega)
    simp [frz, this]
  | .lst xs, k + 1, hd, hk => by
    have hk' : 2 * (depths xs + 1) + 1 ≤ k + 1 := hk
    have := frzs_D (h := h) (n := n) xs k hd (by omega)
    simp [frz, this]
  | v, 0, _, hk => absurd hk (by omega)
theorem frzs_D {h : AH} {n : Nat} : ∀ (xs : List PV) (k : Nat), isDs xs = true → 2 * depths xs + 2 ≤ k → frzs h n k xs = some xs
  | [], k + 1, _, _ => by simp [frzs]
  | x :: r, k + 1, hd, hk => by
    have hd' : (x.isD && isDs r) = true := hd
    rw [Bool.and_eq_true] at hd'
    have hk' : 2 * max x.depth (depths r) + 2 ≤ k + 1 := hk
    have h1 := frz_D (h := h) (n := n) x k hd'.1 (by omega)
    have h2 := frzs_D (h := h) (n := n) r (k + 1) hd'.2 (by omega)
    simp [frzs, h1, h2]
  | xs, 0, _, hk => absurd hk (by omega)
end
mutual
theorem under_D {n : Nat} : ∀ v : PV, v.isD = true → v.under n = true
  | .non, _ => rfl
  | .bl _, _ => rfl
  | .int _, _ => rfl
  | .str _, _ => rfl
  | .tup xs, hd => unders_D xs hd
  | .lst xs, hd => unders_D xs hd
theorem unders_D {n : Nat} : ∀ xs : List PV, isDs xs = true → unders n xs = true
  | [], _ => rfl
  | x :: r, hd => by
    have hd' : (x.isD && isDs r) = true := hd
    rw [Bool.and_eq_true] at hd'
    show (x.under n && unders n r) = true
    rw [under_D x hd'.1, unders_D r hd'.2]
    rfl
end
theorem isDs_iff {xs : List PV} : isDs xs = true ↔ ∀ x ∈ xs, x.isD = true := by
  induction xs with
  | nil => simp [isDs]
  | cons x r ih => simp [isDs, ih]
theorem depths_le {xs : List PV} {n : Nat} : depths xs ≤ n ↔ ∀ x ∈ xs, x.depth ≤ n := by
  induction xs with
  | nil => simp [depths]
  | cons x r ih =>
    simp only [depths, List.mem_cons, forall_eq_or_imp]
    rw [← ih]
    omega
mutual
theorem under_mono {n m : Nat} (h : n ≤ m) : ∀ v : PV, v.under n = true → v.under m = true
  | .non, _ => rfl
  | .bl _, _ => rfl
  | .int _, _ => rfl
  | .str _, _ => rfl
  | .tup xs, k => unders_mono h xs k
  | .lst xs, k => unders_mono h xs k
  | .dct ks vs, k => by
    have k' : (unders n ks && unders n vs) = true := k
    rw [Bool.and_eq_true] at k'
    show (unders m ks && unders m vs) = true
    rw [unders_mono h ks k'.1, unders_mono h vs k'.2]
    rfl
  | .set xs, k => unders_mono h xs k
  | .ref i, k => by
    have k' : decide (i < n) = true := k
    show decide (i < m) = true
    simp only [decide_eq_true_eq] at *
    omega
  | .obj _ _ vs, k => unders_mono h vs k
  | .scr xs, k => unders_mono h xs k
theorem unders_mono {n m : Nat} (h : n ≤ m) : ∀ xs : List PV, unders n xs = true → unders m xs = true
  | [], _ => rfl
  | x :: r, k => by
    have k' : (x.under n && unders n r) = true := k
    rw [Bool.and_eq_true] at k'
    show (x.under m && unders m r) = true
    rw [under_mono h x k'.1, unders_mono h r k'.2]
    rfl
end
theorem MO.under_mono {n m : Nat} (h : n ≤ m) : ∀ o : MO, o.under n = true → o.under m = true
  | .lst xs, k => unders_mono h xs k
  | .dct ks vs, k => by
    have k' : (unders n ks && unders n vs) = true := k
    rw [Bool.and_eq_true] at k'
    show (unders m ks && unders m vs) = true
    rw [unders_mono h ks k'.1, unders_mono h vs k'.2]
    rfl
  | .ins _ _ vs, k => unders_mono h vs k
/-! ### what a def leaves -/
/-- all that a heap names stands in it -/
def hok (h : AH) : Prop := ∀ o ∈ h, o.under h.length = true
def start (d : Def) (vs : List PV) : Env := vs.map some ++ List.replicate (d.slots - d.params) none
theorem run_ok {C : Ctx} {d : Def} {vs : List PV} {h h' : AH} {v : PV} (hk : d.keep = false) (hp : vs.length = d.params) (e : evSs C d.body (start d vs) h = .ok (.ret v) h') (hl : h.length ≤ h'.length) (ht : h'.take h.length = h ∨ ∀ o ∈ h'.take h.length, o.under h.length = true) (hv : v.isD = true) (hd : v.depth ≤ 25) :
    runDef C d vs h = .ok v (h'.take h.length) := by
  unfold runDef
  unfold start at e
  rw [e, hp]
  have hb : (decide (h.length ≤ h'.length) && (decide (h'.take h.length = h) || (h'.take h.length).all fun o => o.under h.length)) = true := by
    simp only [Bool.and_eq_true, Bool.or_eq_true, decide_eq_true_eq, List.all_eq_true]
    exact ⟨hl, ht⟩
  simp only [decide_true, grd_true, leave, hk, hb]
  rw [frz_D v 60 hv (by omega)]
/-- nothing is changed -/
theorem run_pure {C : Ctx} {d : Def} {vs : List PV} {h ext : AH} {v : PV} (hk : d.keep = false) (hp : vs.length = d.params) (e : evSs C d.body (start d vs) h = .ok (.ret v) (h ++ ext)) (hv : v.isD = true) (hd : v.depth ≤ 25) : runDef C d vs h = .ok v h := by
  rw [run_ok hk hp e (by simp) (.inl (by simp)) hv hd]
  simp
theorem run_p {C : Ctx} {d : Def} {vs : List PV} {h : AH} {v : PV} (hk : d.keep = false) (hp : vs.length = d.params) (e : evSs C d.body (start d vs) h = .ok (.ret v) h) (hv : v.isD = true) (hd : v.depth ≤ 25) : runDef C d vs h = .ok v h :=
  run_pure (ext := []) hk hp (by rw [List.append_nil]; exact e) hv hd
theorem run_n {C : Ctx} {d : Def} {vs : List PV} {h : AH} {ρ : Env} (hk : d.keep = false) (hp : vs.length = d.params) (e : evSs C d.body (start d vs) h = .ok (.next ρ) h) : runDef C d vs h = .ok .non h := by
  unfold runDef
  unfold start at e
  rw [e, hp]
  simp [leave, hk, frz]
theorem run_x {C : Ctx} {d : Def} {vs : List PV} {h : AH} {x : Ex} (hp : vs.length = d.params) (e : evSs C d.body (start d vs) h = .exc x h) : runDef C d vs h = .exc x h := by
  unfold runDef
  unfold start at e
  rw [e, hp]
  simp
@[simp] theorem ctx_fn {P : Prg} {f : Nat → List PV → AH → Res PV} : (P.ctx f).fn = f := rfl
@[simp] theorem ctx_wf {P : Prg} {f : Nat → List PV → AH → Res PV} : (P.ctx f).wf = P.wf := rfl
@[simp] theorem ctx_word {P : Prg} {f : Nat → List PV → AH → Res PV} : (P.ctx f).word = P.word := rfl
theorem run_none {C : Ctx} {d : Def} {vs : List PV} {h ext : AH} {ρ : Env} (hk : d.keep = false) (hp : vs.length = d.params) (e : evSs C d.body (start d vs) h = .ok (.next ρ) (h ++ ext)) : runDef C d vs h = .ok .non h := by
  unfold runDef
  unfold start at e
  rw [e, hp]
  simp [leave, hk, frz]
theorem run_exc {C : Ctx} {d : Def} {vs : List PV} {h ext : AH} {x : Ex} (hp : vs.length = d.params) (e : evSs C d.body (start d vs) h = .exc x (h ++ ext)) : runDef C d vs h = .exc x h := by
  unfold runDef
  unfold start at e
  rw [e, hp]
  simp
theorem call_of {P : Prg} {k f : Nat} {d : Def} {vs : List PV} {h : AH} (hd : P.defs f = some d) : P.call (k + 1) f vs h = runDef (P.ctx (P.call k)) d vs h := by
  show (match P.defs f with
    | some d => runDef (P.ctx (P.call k)) d vs h
    | none => .stuck) = _
  rw [hd]
inductive F2 {α β : Type} (R : α → β → Prop) : List α → List β → Prop
  | nil : F2 R [] []
  | cons {a b as bs} : R a b → F2 R as bs → F2 R (a :: as) (b :: bs)
theorem F2.length {α β : Type} {R : α → β → Prop} : ∀ {as : List α} {bs : List β}, F2 R as bs → as.length = bs.length
  | _, _, .nil => rfl
  | _, _, .cons _ r => by rw [List.length_cons, List.length_cons, r.length]
/-! ### numbers -/
section
variable {h : AH} {i j : Int}
theorem bin_add : binV h .add (.int i) (.int j) = some (.int (i + j)) := rfl
theorem bin_sub : binV h .sub (.int i) (.int j) = some (.int (i - j)) := rfl
theorem bin_mulr (hs : small j = true) : binV h .mul (.int i) (.int j) = some (.int (i * j)) := by simp [binV, mulV, mulOk, hs, ocond]
theorem bin_mull (hs : small i = true) : binV h .mul (.int i) (.int j) = some (.int (i * j)) := by simp [binV, mulV, mulOk, hs, ocond]
theorem bin_mul (hs : mulOk i j = true) : binV h .mul (.int i) (.int j) = some (.int (i * j)) := by simp [binV, mulV, hs, ocond]
theorem bin_pow (h1 : 0 ≤ j) (h2 : j ≤ 1000000) (h3 : small i = true) : binV h .pow (.int i) (.int j) = some (.int (i ^ j.toNat)) := by simp [binV, intV, ocond, h1, h2, h3]
theorem bin_mod (hj : 0 < j) : binV h .mod (.int i) (.int j) = some (.int (i % j)) := by simp [binV, intV, ocond, hj]
theorem bin_div (h1 : 0 < j) (h2 : j < 1073741824) : binV h .fdiv (.int i) (.int j) = some (.int (i / j)) := by simp [binV, intV, ocond, h1, h2]
theorem small_of (h1 : -18446744073709551616 < i) (h2 : i < 18446744073709551616) : small i = true := by
  simp only [small, decide_eq_true_eq]
  omega
end
/-! ### comprehensions -/
theorem compL_fm {f : PV → AH → Res (Option PV)} {g : PV → Option PV} {h : AH} {gd : Option (Nat × MO)} (hg : grdOk gd h = true) : ∀ {xs : List PV}, (∀ x ∈ xs, f x h = .ok (g x) h) → compL gd f xs h = .ok (xs.filterMap g) h
  | [], _ => by
    unfold compL
    rw [hg]
    rfl
  | x :: r, k => by
    unfold compL
    rw [hg, k x (List.mem_cons_self ..)]
    simp only [grd_true, Res.nox_ok, Res.bnd_ok]
    rw [compL_fm hg fun y hy => k y (List.mem_cons_of_mem _ hy)]
    simp only [Res.bnd_ok, List.filterMap_cons]
    cases g x <;> rfl
theorem compL_map {f : PV → AH → Res (Option PV)} {g : PV → PV} {h : AH} {gd : Option (Nat × MO)} (hg : grdOk gd h = true) {xs : List PV} (k : ∀ x ∈ xs, f x h = .ok (some (g x)) h) : compL gd f xs h = .ok (xs.map g) h := by
  rw [compL_fm (g := fun x => some (g x)) hg k]
  simp
/-! ### for -/
theorem forL_rule {g : Option (Nat × MO)} {f : PV → Env → AH → Res Out} (Inv : List PV → Env → AH → Prop) (Q : Res Out → Prop) (hg : ∀ xs ρ h, Inv xs ρ h → grdOk g h = true) (hend : ∀ ρ h, Inv [] ρ h → Q (.ok (.next ρ) h))
    (step : ∀ x r ρ h, Inv (x :: r) ρ h → (∃ ρ' h', f x ρ h = .ok (.next ρ') h' ∧ Inv r ρ' h') ∨ (∃ v h', f x ρ h = .ok (.ret v) h' ∧ Q (.ok (.ret v) h')) ∨ ∃ e h', f x ρ h = .exc e h' ∧ Q (.exc e h')) :
    ∀ (xs : List PV) (ρ : Env) (h : AH), Inv xs ρ h → Q (forL g f xs ρ h)
  | [], ρ, h, i => by
    unfold forL
    rw [hg _ _ _ i]
    exact hend ρ h i
  | x :: r, ρ, h, i => by
    unfold forL
    rw [hg _ _ _ i]
    rcases step x r ρ h i with ⟨ρ', h', e, i'⟩ | ⟨v, h', e, q⟩ | ⟨e', h', e, q⟩
    · rw [e]
      exact forL_rule Inv Q hg hend step r ρ' h' i'
    · rw [e]
      exact q
    · rw [e]
      exact q
theorem whlL_rule {c : Env → AH → Res Bool} {b : Env → AH → Res Out} (Inv : Nat → Env → AH → Prop) (Q : Res Out → Prop)
    (step : ∀ m ρ h, Inv m ρ h → (c ρ h = .ok false h ∧ Q (.ok (.next ρ) h)) ∨ (c ρ h = .ok true h ∧ ((∃ m' ρ' h', m' < m ∧ b ρ h = .ok (.next ρ') h' ∧ Inv m' ρ' h') ∨ (∃ v h', b ρ h = .ok (.ret v) h' ∧ Q (.ok (.ret v) h'))))) :
    ∀ (n m : Nat) (ρ : Env) (h : AH), m < n → Inv m ρ h → Q (whlL c b n ρ h)
  | 0, m, ρ, h, l, _ => absurd l (by omega)
  | n + 1, m, ρ, h, l, i => by
    unfold whlL
    rcases step m ρ h i with ⟨e, q⟩ | ⟨e, ⟨m', ρ', h', l', e', i'⟩ | ⟨v, h', e', q⟩⟩
    · rw [e]
      exact q
    · rw [e]
      simp only [Res.bnd_ok]
      rw [e']
      exact whlL_rule Inv Q step n m' ρ' h' (by omega) i'
    · rw [e]
      simp only [Res.bnd_ok]
      rw [e']
      exact q
/-! ### a source of drawn numbers -/
structure Src (a b : Int) : Prop where
  a0 : 0 ≤ a
  a1 : a < 2 ^ 1000
  b0 : 0 ≤ b
  b1 : b < 2147483648
def srcO (a b : Int) : MO := .lst [.int a, .int b]
/-- at n of the heap h stands a source; the heap is whole -/
structure At (n : Nat) (h : AH) : Prop where
  ex : ∃ a b, h[n]? = some (srcO a b) ∧ Src a b
  ok : hok h
/-- draws were made -/
def Step (n : Nat) (h h' : AH) : Prop := ∃ a b, Src a b ∧ h' = h.set n (srcO a b)
theorem At.lt {n : Nat} {h : AH} (i : At n h) : n < h.length := by
  obtain ⟨a, b, e, _⟩ := i.ex
  exact (List.getElem?_eq_some_iff.mp e).1
theorem Step.refl {n : Nat} {h : AH} (i : At n h) : Step n h h := by
  obtain ⟨a, b, e, s⟩ := i.ex
  refine ⟨a, b, s, ?_⟩
  obtain ⟨l, e⟩ := List.getElem?_eq_some_iff.mp e
  rw [← e, List.set_getElem_self]
theorem Step.trans {n : Nat} {h h1 h2 : AH} (s : Step n h h1) (t : Step n h1 h2) : Step n h h2 := by
  obtain ⟨a, b, _, rfl⟩ := s
  obtain ⟨c, d, k, rfl⟩ := t
  exact ⟨c, d, k, by simp⟩
theorem Step.len {n : Nat} {h h' : AH} (s : Step n h h') : h'.length = h.length := by
  obtain ⟨a, b, _, rfl⟩ := s
  simp
theorem Step.at {n : Nat} {h h' : AH} (i : At n h) (s : Step n h h') : At n h' := by
  obtain ⟨a, b, k, rfl⟩ := s
  refine ⟨⟨a, b, List.getElem?_set_self i.lt, k⟩, fun o ho => ?_⟩
  rw [List.length_set]
  rcases List.mem_or_eq_of_mem_set ho with m | e
  · exact i.ok o m
  · rw [e]
    rfl
theorem Step.get {n m : Nat} {h h' : AH} (s : Step n h h') (ne : m ≠ n) : h'[m]? = h[m]? := by
  obtain ⟨a, b, k, rfl⟩ := s
  exact List.getElem?_set_ne (Ne.symm ne)
theorem Step.app {n : Nat} {h ext h2 : AH} (hn : n < h.length) (s : Step n (h ++ ext) h2) : ∃ h', Step n h h' ∧ h2 = h' ++ ext := by
  obtain ⟨a, b, k, rfl⟩ := s
  exact ⟨_, ⟨a, b, k, rfl⟩, by rw [List.set_append_left _ _ hn]⟩
theorem At.app {n : Nat} {h ext : AH} (i : At n h) (he : ∀ o ∈ ext, o.under (h.length + ext.length) = true) : At n (h ++ ext) := by
  obtain ⟨a, b, e, s⟩ := i.ex
  refine ⟨⟨a, b, by rw [List.getElem?_append_left i.lt]; exact e, s⟩, fun o ho => ?_⟩
  rw [List.length_append]
  rcases List.mem_append.mp ho with m | m
  · exact MO.under_mono (by omega) o (i.ok o m)
  · exact he o m
/-- a call draws and gives a good value -/
def Draws (n : Nat) (h : AH) (r : Res PV) (G : PV → Prop) : Prop := ∃ v h', r = .ok v h' ∧ Step n h h' ∧ G v
/-- a def that draws -/
theorem run_draw {C : Ctx} {d : Def} {vs : List PV} {n : Nat} {h : AH} {G : PV → Prop} (i : At n h) (hk : d.keep = false) (hp : vs.length = d.params) (hG : ∀ v, G v → v.isD = true ∧ v.depth ≤ 25)
    (e : ∃ v h' ext, evSs C d.body (start d vs) h = .ok (.ret v) (h' ++ ext) ∧ Step n h h' ∧ G v) : Draws n h (runDef C d vs h) G := by
  obtain ⟨v, h', ext, e, s, g⟩ := e
  refine ⟨v, h', ?_, s, g⟩
  have i' := Step.at i s
  have hl := s.len
  have ht : (h' ++ ext).take h.length = h' := by rw [← hl]; simp
  rw [run_ok hk hp e (by rw [List.length_append]; omega) (.inr (by rw [ht, ← hl]; exact i'.ok)) (hG v g).1 (hG v g).2, ht]
/-- a comprehension that draws -/
theorem compL_draw {f : PV → AH → Res (Option PV)} {G : PV → Option PV → Prop} {n : Nat} : ∀ {xs : List PV} {h : AH}, At n h → (∀ x ∈ xs, ∀ h', At n h' → h'.length = h.length → ∃ o h2, f x h' = .ok o h2 ∧ Step n h' h2 ∧ G x o) →
    ∃ (os : List (Option PV)) (h' : AH), compL none f xs h = .ok (os.filterMap id) h' ∧ Step n h h' ∧ F2 G xs os
  | [], h, i, _ => ⟨[], h, rfl, Step.refl i, .nil⟩
  | x :: r, h, i, k => by
    obtain ⟨o, h2, e, s, g⟩ := k x (List.mem_cons_self ..) h i rfl
    obtain ⟨os, h', e', s', g'⟩ := compL_draw (xs := r) (Step.at i s) fun y hy h3 i3 l3 => k y (List.mem_cons_of_mem _ hy) h3 i3 (l3.trans s.len)
    refine ⟨o :: os, h', ?_, s.trans s', .cons g g'⟩
    unfold compL
    rw [e]
    simp only [grdOk, grd_true, Res.nox_ok, Res.bnd_ok]
    rw [e']
    simp only [Res.bnd_ok, List.filterMap_cons]
    cases o <;> rfl
end Z
-- ZP2
set_option Elab.async false
set_option linter.all false
set_option maxRecDepth 100000
set_option maxHeartbeats 4000000
/-! Layer ZP, part 2: the laws' draws. -/
namespace Z
open G
theorem seqOf_src {n : Nat} {h : AH} {a b : Int} (e : h[n]? = some (srcO a b)) : seqOf h (.ref n) = some [.int a, .int b] := by simp [seqOf, e, srcO]
theorem sub_src0 {n : Nat} {h : AH} {a b : Int} (e : h[n]? = some (srcO a b)) : subV h (.ref n) (.int 0) = some (.int a) := by simp [subV, subN, dctOf, seqIx, seqOf, e, srcO, atL, ixOf]
theorem sub_src1 {n : Nat} {h : AH} {a b : Int} (e : h[n]? = some (srcO a b)) : subV h (.ref n) (.int 1) = some (.int b) := by simp [subV, subN, dctOf, seqIx, seqOf, e, srcO, atL, ixOf]
def isInt (lo hi : Int) (v : PV) : Prop := ∃ i, v = .int i ∧ lo ≤ i ∧ i < hi
theorem pick_ok {k n : Nat} {h : AH} {size : Int} (i : At n h) (h1 : 1 ≤ size) (h2 : size < 1073741824) : Draws n h (P.call (k + 1) 12 [.ref n, .int size] h) (isInt 0 size) := by
  rw [call_of d12]
  obtain ⟨a, b, e, s⟩ := i.ex
  refine run_draw i rfl rfl (fun v ⟨i, e, _⟩ => by subst e; exact ⟨rfl, Nat.zero_le _⟩) ?_
  have hl := i.lt
  by_cases ha : 0 < a
  · refine ⟨.int (a % size), h.set n (srcO (a / size) b), [], ?_, ⟨_, _, ⟨?_, ?_, s.b0, s.b1⟩, rfl⟩, _, rfl, Int.emod_nonneg _ (by omega), Int.emod_lt_of_pos _ (by omega)⟩
    · simp [D12, b12, start, sub_src0 e, ha, bin_mod, bin_div, h2, show 0 < size by omega, e, srcO, ixOf]
    · exact Int.ediv_nonneg s.a0 (by omega)
    · exact Int.lt_of_le_of_lt (Int.ediv_le_self _ s.a0) s.a1
  · -- the numbers are mixed
    have wf : P.wf = 1000000 := rfl
    have key : ∀ (m : Nat) (h' : AH) (dr w : Int), Step n h h' → 0 ≤ dr → (m = 2 ∧ w = 1 ∨ m = 1 ∧ w = 268435456 ∨ m = 0 ∧ w = 72057594037927936) →
        ∃ dr' w' h2, whlL (wcond (P.ctx (P.call k)) (.cmp .lt (.var 3) (.var 1))) (evSs (P.ctx (P.call k)) [(.asgI (.var 0) (.cst (.int 1)) (.bin .mod (.bin .mul (.sub (.var 0) (.cst (.int 1))) (.cst (.int 69621))) (.cst (.int 2147483647)))), (.asg 2 (.bin .add (.bin .mul (.var 2) (.cst (.int 268435456))) (.bin .fdiv (.bin .mod (.bin .mul (.sub (.var 0) (.cst (.int 1))) (.bin .add (.bin .fdiv (.sub (.var 0) (.cst (.int 1))) (.cst (.int 128))) (.cst (.int 3)))) (.cst (.int 2147483629))) (.cst (.int 8))))), (.asg 3 (.bin .mul (.var 3) (.cst (.int 268435456))))]) 1000000 [some (.ref n), some (.int size), some (.int dr), some (.int w)] h'
          = .ok (.next [some (.ref n), some (.int size), some (.int dr'), some (.int w')]) h2 ∧ Step n h h2 ∧ 0 ≤ dr' := by
      intro m h' dr w s0 hd hm
      refine whlL_rule (fun m ρ h2 => ∃ dr w, ρ = [some (.ref n), some (.int size), some (.int dr), some (.int w)] ∧ Step n h h2 ∧ 0 ≤ dr ∧ (m = 2 ∧ w = 1 ∨ m = 1 ∧ w = 268435456 ∨ m = 0 ∧ w = 72057594037927936)) (fun r => ∃ dr' w' h2, r = .ok (.next [some (.ref n), some (.int size), some (.int dr'), some (.int w')]) h2 ∧ Step n h h2 ∧ 0 ≤ dr') ?_ 1000000 m _ h' (by omega) ⟨dr, w, rfl, s0, hd, hm⟩
      intro m ρ h2 ⟨dr, w, e1, s1, hd, hm⟩
      subst e1
      by_cases hw : w < size
      · right
        refine ⟨by simp [wcond, hw], .inl ?_⟩
        have i2 := Step.at i s1
        obtain ⟨a2, b2, e2, s2⟩ := i2.ex
        have hl2 := i2.lt
        have sb : small b2 = true := by
          simp only [small, decide_eq_true_eq]
          have := s2.b0
          have := s2.b1
          omega
        have hc0 : 0 ≤ b2 * 69621 % 2147483647 := Int.emod_nonneg _ (by omega)
        have hc1 : b2 * 69621 % 2147483647 < 2147483647 := Int.emod_lt_of_pos _ (by omega)
        have sc : small (b2 * 69621 % 2147483647) = true := by
          simp only [small, decide_eq_true_eq]
          omega
        refine ⟨m - 1, [some (.ref n), some (.int size), some (.int (dr * 268435456 + b2 * 69621 % 2147483647 * (b2 * 69621 % 2147483647 / 128 + 3) % 2147483629 / 8)), some (.int (w * 268435456))], h2.set n (srcO a2 (b2 * 69621 % 2147483647)), by omega, ?_, _, _, rfl, s1.trans ⟨_, _, ⟨s2.a0, s2.a1, hc0, by omega⟩, rfl⟩, ?_, by omega⟩
        · have e3 : (h2.set n (srcO a2 (b2 * 69621 % 2147483647)))[n]? = some (srcO a2 (b2 * 69621 % 2147483647)) := List.getElem?_set_self hl2
          have e4 : h2[n]? = some (.lst [.int a2, .int b2]) := e2
          have e5 : (h2.set n (.lst [.int a2, .int (b2 * 69621 % 2147483647)]))[n]? = some (srcO a2 (b2 * 69621 % 2147483647)) := e3
          have m1 : small 69621 = true := by decide
          have m2 : small 268435456 = true := by decide
          simp [sub_src1 e2, bin_mulr m1, bin_mulr m2, bin_mull sc, bin_mod, bin_div, bin_add, e4, ixOf, sub_src1 e5]
          rfl
        · have : 0 ≤ b2 * 69621 % 2147483647 * (b2 * 69621 % 2147483647 / 128 + 3) % 2147483629 / 8 := Int.ediv_nonneg (Int.emod_nonneg _ (by omega)) (by omega)
          omega
      · left
        refine ⟨by simp [wcond, hw], _, _, _, rfl, s1, hd⟩
    obtain ⟨dr', w', h2, e2, s2, hd2⟩ := key 2 h 0 1 (Step.refl i) (by omega) (.inl ⟨rfl, rfl⟩)
    refine ⟨.int (dr' % size), h2, [], ?_, s2, _, rfl, Int.emod_nonneg _ (by omega), Int.emod_lt_of_pos _ (by omega)⟩
    have hwf : (P.ctx (P.call k)).wf = 1000000 := rfl
    simp [D12, b12, start, sub_src0 e, ha, hwf, wf, ocond] at e2 ⊢
    rw [e2]
    simp [binV, intV, ocond, show 0 < size by omega]
/-- the values of a list or tuple -/
theorem of_ok {k n : Nat} {h : AH} {v : PV} {xs : List PV} (i : At n h) (hv : v = .lst xs ∨ v = .tup xs) (h0 : xs ≠ []) (hl : xs.length < 1073741824) (hd : ∀ x ∈ xs, x.isD = true ∧ x.depth ≤ 25) : Draws n h (P.call (k + 2) 13 [.ref n, v] h) (· ∈ xs) := by
  rw [call_of d13]
  refine run_draw i rfl rfl hd ?_
  have hlen : 0 < xs.length := List.length_pos_iff.mpr h0
  obtain ⟨w, h2, e2, s2, ⟨j, rfl, j0, j1⟩⟩ := pick_ok (k := k) (size := (xs.length : Int)) i (by omega) (by omega)
  have hfn : (P.ctx (P.call (k + 1))).fn 12 [.ref n, .int xs.length] h = .ok (.int j) h2 := e2
  have hj : j.toNat < xs.length := by omega
  refine ⟨xs[j.toNat], h2, [], ?_, s2, List.getElem_mem _⟩
  have e3 : lenV h v = some xs.length := by rcases hv with rfl | rfl <;> simp [lenV, dctOf, seqOf]
  have e4 : subV h2 v (.int j) = some xs[j.toNat] := by
    rcases hv with rfl | rfl <;> simp [subV, subN, dctOf, seqIx, seqOf, atL, ixOf, j0, j1, List.getElem?_eq_getElem hj]
  simp [D13, b13, start, biV, on1, e3, e2, e4]
theorem p60 : (10 : Int) ^ 60 = 1000000000000000000000000000000000000000000000000000000000000 := by decide
/-- ten to the three hundredth -/
def bigE : E := .bin .mul (.bin .mul (.bin .mul (.bin .mul (.bin .pow (.cst (.int 10)) (.cst (.int 60))) (.bin .pow (.cst (.int 10)) (.cst (.int 60)))) (.bin .pow (.cst (.int 10)) (.cst (.int 60)))) (.bin .pow (.cst (.int 10)) (.cst (.int 60)))) (.bin .pow (.cst (.int 10)) (.cst (.int 60)))
def bigI : Int := 10 ^ 60 * 10 ^ 60 * 10 ^ 60 * 10 ^ 60 * 10 ^ 60
theorem source_big {C : Ctx} {ρ : Env} {h : AH} : evE C bigE ρ h = .ok (.int bigI) h := by
  unfold bigE bigI
  have e : binV h .pow (.int 10) (.int 60) = some (.int (10 ^ 60)) := bin_pow (by decide) (by decide) (by decide)
  have m1 : binV h .mul (.int (10 ^ 60)) (.int (10 ^ 60)) = some (.int (10 ^ 60 * 10 ^ 60)) := bin_mul (by decide +kernel)
  have m2 : binV h .mul (.int (10 ^ 60 * 10 ^ 60)) (.int (10 ^ 60)) = some (.int (10 ^ 60 * 10 ^ 60 * 10 ^ 60)) := bin_mul (by decide +kernel)
  have m3 : binV h .mul (.int (10 ^ 60 * 10 ^ 60 * 10 ^ 60)) (.int (10 ^ 60)) = some (.int (10 ^ 60 * 10 ^ 60 * 10 ^ 60 * 10 ^ 60)) := bin_mul (by decide +kernel)
  have m4 : binV h .mul (.int (10 ^ 60 * 10 ^ 60 * 10 ^ 60 * 10 ^ 60)) (.int (10 ^ 60)) = some (.int (10 ^ 60 * 10 ^ 60 * 10 ^ 60 * 10 ^ 60 * 10 ^ 60)) := bin_mul (by decide +kernel)
  simp only [evE_bin, evE_cst, Res.bnd_ok, e, ofO_some, m1, m2, m3, m4]
theorem sub_scr {h : AH} {ns : List Int} {m : Nat} (hm : m < ns.length) : subV h (.scr (ns.map .int)) (.int (m : Int)) = some (.int ns[m]) := by simp [subV, subN, dctOf, seqIx, seqOf, atL, ixOf, hm]
/-- a source: new at the heap's end -/
theorem source_ok {k j : Nat} {h : AH} {ns : List Int} (hj : j < 64) (hh : hok h) : ∃ a b, Src a b ∧ P.call (k + 1) 11 [.scr (ns.map .int), .int j] h = .ok (.ref h.length) (h ++ [srcO a b]) := by
  rw [call_of d11]
  have fin : ∀ cell : Int, 0 ≤ cell → cell < 2 ^ 1000 → ∃ a b, Src a b ∧ evSs (P.ctx (P.call k)) [(.ret (.mut (.disp [(.bin .mul (.var 2) (.bi .int [(.cmp .ge (.var 2) (.bin .pow (.cst (.int 10)) (.cst (.int 18))))])), (.bin .add (.cst (.int 1)) (.bin .mod (.bin .add (.bin .mul (.var 2) (.cst (.int 69621))) (.bin .mul (.cst (.int 86028121)) (.bin .add (.var 1) (.cst (.int 1))))) (.cst (.int 2147483646))))])))]
      [some (.scr (ns.map .int)), some (.int j), some (.int cell)] h = .ok (.ret (.ref h.length)) (h ++ [srcO a b]) := by
    intro cell c0 c1
    have m1 : small 69621 = true := by decide
    have m2 : small 86028121 = true := by decide
    have e18 : binV h .pow (.int 10) (.int 18) = some (.int (10 ^ 18)) := bin_pow (by decide) (by decide) (by decide)
    have r0 : 0 ≤ (cell * 69621 + 86028121 * (j + 1)) % 2147483646 := Int.emod_nonneg _ (by omega)
    have r1 : (cell * 69621 + 86028121 * (j + 1)) % 2147483646 < 2147483646 := Int.emod_lt_of_pos _ (by omega)
    by_cases hc : (1000000000000000000 : Int) ≤ cell
    · refine ⟨cell * 1, 1 + (cell * 69621 + 86028121 * (j + 1)) % 2147483646, ⟨by omega, by omega, by omega, by omega⟩, ?_⟩
      simp [e18, cmpV, leV, hc, biV, on1, intC, b2i, bin_mulr (show small 1 = true by decide), bin_mulr m1, bin_mull m2, bin_add, bin_mod, srcO]
    · refine ⟨cell * 0, 1 + (cell * 69621 + 86028121 * (j + 1)) % 2147483646, ⟨by omega, by omega, by omega, by omega⟩, ?_⟩
      simp [e18, cmpV, leV, hc, biV, on1, intC, b2i, bin_mulr (show small 0 = true by decide), bin_mulr m1, bin_mull m2, bin_add, bin_mod, srcO]
  have run : ∀ r : Res Out, (∃ a b, Src a b ∧ r = .ok (.ret (.ref h.length)) (h ++ [srcO a b])) → evSs (P.ctx (P.call k)) D11.body (Z.start D11 [.scr (ns.map .int), .int j]) h = r → ∃ a b, Src a b ∧ runDef (P.ctx (P.call k)) D11 [.scr (ns.map .int), .int j] h = .ok (.ref h.length) (h ++ [srcO a b]) := by
    intro r ⟨a, b, s, e⟩ er
    refine ⟨a, b, s, ?_⟩
    unfold runDef
    unfold Z.start at er
    rw [er, e]
    simp [D11, leave]
  have m0 : binV h .mul (.int 15485863) (.int j) = some (.int (15485863 * j)) := bin_mull (by decide)
  have hlen : lenV h (.scr (ns.map .int)) = some ns.length := by simp [lenV, dctOf, seqOf]
  by_cases h1 : j < ns.length
  · have e1 : subV h (.scr (ns.map .int)) (.int j) = some (.int ns[j]) := by
      simp [subV, subN, dctOf, seqIx, seqOf, atL, ixOf, h1]
    have b0 : 0 < bigI := by decide +kernel
    obtain ⟨a, b, s, e⟩ := fin (ns[j] % bigI) (Int.emod_nonneg _ (by omega)) (Int.lt_trans (Int.emod_lt_of_pos _ b0) (by decide +kernel))
    refine run _ ⟨a, b, s, e⟩ ?_
    have hb : D11.body = [(.asg 2 (.bin .mul (.cst (.int 15485863)) (.var 1))),
   (.ife (.cmp .lt (.var 1) (.bi .len [(.var 0)]))
    [(.asg 2 (.bin .mod (.sub (.var 0) (.var 1)) bigE))]
    [(.ife (.cmp .gt (.bi .len [(.var 0)]) (.cst (.int 0)))
    [(.asg 2 (.bin .add (.bin .mod (.sub (.var 0) (.bin .mod (.var 1) (.bi .len [(.var 0)]))) (.bin .pow (.cst (.int 10)) (.cst (.int 15)))) (.bin .mul (.cst (.int 15485863)) (.var 1))))]
    [])])] ++ [(.ret (.mut (.disp [(.bin .mul (.var 2) (.bi .int [(.cmp .ge (.var 2) (.bin .pow (.cst (.int 10)) (.cst (.int 18))))])), (.bin .add (.cst (.int 1)) (.bin .mod (.bin .add (.bin .mul (.var 2) (.cst (.int 69621))) (.bin .mul (.cst (.int 86028121)) (.bin .add (.var 1) (.cst (.int 1))))) (.cst (.int 2147483646))))])))] := rfl
    rw [hb]
    generalize [(S.ret (.mut (.disp [(.bin .mul (.var 2) (.bi .int [(.cmp .ge (.var 2) (.bin .pow (.cst (.int 10)) (.cst (.int 18))))])), (.bin .add (.cst (.int 1)) (.bin .mod (.bin .add (.bin .mul (.var 2) (.cst (.int 69621))) (.bin .mul (.cst (.int 86028121)) (.bin .add (.var 1) (.cst (.int 1))))) (.cst (.int 2147483646))))])))] = R
    simp [D11, Z.start, m0, biV, on1, hlen, cmpV, ltV, tru, h1, e1, source_big, bin_mod b0]
  · have hb : D11.body = [(.asg 2 (.bin .mul (.cst (.int 15485863)) (.var 1))),
   (.ife (.cmp .lt (.var 1) (.bi .len [(.var 0)]))
    [(.asg 2 (.bin .mod (.sub (.var 0) (.var 1)) bigE))]
    [(.ife (.cmp .gt (.bi .len [(.var 0)]) (.cst (.int 0)))
    [(.asg 2 (.bin .add (.bin .mod (.sub (.var 0) (.bin .mod (.var 1) (.bi .len [(.var 0)]))) (.bin .pow (.cst (.int 10)) (.cst (.int 15)))) (.bin .mul (.cst (.int 15485863)) (.var 1))))]
    [])])] ++ [(.ret (.mut (.disp [(.bin .mul (.var 2) (.bi .int [(.cmp .ge (.var 2) (.bin .pow (.cst (.int 10)) (.cst (.int 18))))])), (.bin .add (.cst (.int 1)) (.bin .mod (.bin .add (.bin .mul (.var 2) (.cst (.int 69621))) (.bin .mul (.cst (.int 86028121)) (.bin .add (.var 1) (.cst (.int 1))))) (.cst (.int 2147483646))))])))] := rfl
    have hj' : (0 : Int) ≤ (j : Int) := by omega
    by_cases h2 : 0 < ns.length
    · have e15 : binV h .pow (.int 10) (.int 15) = some (.int 1000000000000000) := (bin_pow (by decide) (by decide) (by decide)).trans rfl
      have hm : j % ns.length < ns.length := Nat.mod_lt _ h2
      have e1 : subV h (.scr (ns.map .int)) (.int ((j : Int) % (ns.length : Int))) = some (.int ns[j % ns.length]) := by
        have : (j : Int) % (ns.length : Int) = ((j % ns.length : Nat) : Int) := by omega
        rw [this]
        exact sub_scr hm
      obtain ⟨a, b, s, e⟩ := fin (ns[j % ns.length] % 1000000000000000 + 15485863 * j) (by omega) (by omega)
      refine run _ ⟨a, b, s, e⟩ ?_
      rw [hb]
      generalize [(S.ret (.mut (.disp [(.bin .mul (.var 2) (.bi .int [(.cmp .ge (.var 2) (.bin .pow (.cst (.int 10)) (.cst (.int 18))))])), (.bin .add (.cst (.int 1)) (.bin .mod (.bin .add (.bin .mul (.var 2) (.cst (.int 69621))) (.bin .mul (.cst (.int 86028121)) (.bin .add (.var 1) (.cst (.int 1))))) (.cst (.int 2147483646))))])))] = R
      simp [D11, Z.start, m0, biV, on1, hlen, cmpV, ltV, tru, h1, h2, e1, e15, bin_mod, bin_add]
    · obtain ⟨a, b, s, e⟩ := fin (15485863 * j) (by omega) (by omega)
      refine run _ ⟨a, b, s, e⟩ ?_
      rw [hb]
      generalize [(S.ret (.mut (.disp [(.bin .mul (.var 2) (.bi .int [(.cmp .ge (.var 2) (.bin .pow (.cst (.int 10)) (.cst (.int 18))))])), (.bin .add (.cst (.int 1)) (.bin .mod (.bin .add (.bin .mul (.var 2) (.cst (.int 69621))) (.bin .mul (.cst (.int 86028121)) (.bin .add (.var 1) (.cst (.int 1))))) (.cst (.int 2147483646))))])))] = R
      simp [D11, Z.start, m0, biV, on1, hlen, cmpV, ltV, tru, h1, h2]
end Z
-- ZV0
set_option Elab.async false
set_option linter.all false
set_option maxRecDepth 100000
set_option maxHeartbeats 4000000
/-! Layer ZV, part 0: values.py. -/
namespace Z
open G
def sInt : List Nat := [105, 110, 116]
def sText : List Nat := [116, 101, 120, 116]
def sFlag : List Nat := [102, 108, 97, 103]
def isIn (lo hi : Int) : PV → Bool
  | .int i => decide (lo ≤ i) && decide (i ≤ hi)
  | _ => false
def okC (c : Nat) : Bool := decide (32 ≤ c) && decide (c ≤ 126)
def isTx : PV → Bool
  | .str x => decide (x.length ≤ 30) && x.all okC
  | _ => false
def isBl : PV → Bool
  | .bl _ => true
  | _ => false
def such (t : List Nat) (v : PV) : Bool := if t = sInt then isIn (-1000000000) 1000000000 v else if t = sText then isTx v else isBl v
def isKd : PV → Bool
  | .str x => decide (sInt = x) || (decide (sText = x) || decide (sFlag = x))
  | _ => false
mutual
theorem eqP_refl : ∀ v : PV, v.isD = true → eqP v v = true
  | .non, _ => rfl
  | .bl b, _ => by simp [eqP]
  | .int i, _ => by simp [eqP]
  | .str x, _ => by simp [eqP]
  | .tup xs, h => eqPs_refl xs h
  | .lst xs, h => eqPs_refl xs h
theorem eqPs_refl : ∀ xs : List PV, isDs xs = true → eqPs xs xs = true
  | [], _ => rfl
  | x :: r, h => by
    have h' : (x.isD && isDs r) = true := h
    rw [Bool.and_eq_true] at h'
    show (eqP x x && eqPs r r) = true
    rw [eqP_refl x h'.1, eqPs_refl r h'.2]
    rfl
end
theorem allB_map {α : Type} (f : α → Bool) : ∀ xs : List α, allB (xs.map fun x => .bl (f x)) = some (xs.map f)
  | [] => rfl
  | x :: r => by
    show (allB (r.map fun x => .bl (f x))).map (f x :: ·) = _
    rw [allB_map f r]
    rfl
theorem lt1 {a b : Nat} : ([a] : List Nat) < [b] ↔ a < b := by simp [List.cons_lt_cons_iff]
section
variable {k : Nat} {h : AH} {v : PV}
theorem c1 {lo hi : Int} (hv : v.isD = true) : P.call (k + 1) 1 [v, .int lo, .int hi] h = .ok (.bl (isIn lo hi v)) h := by
  rw [call_of d1]
  refine run_p rfl rfl ?_ rfl (Nat.zero_le _)
  cases v <;> first | (cases hv; done) | simp [D1, b1, start, isIn]
  rename_i i
  by_cases a : lo ≤ i <;> simp [a]
theorem c17 {lo hi : Int} (hv : v.isD = true) : P.call (k + 1) 17 [v, .int lo, .int hi] h = .ok (.bl (isIn lo hi v)) h := by
  rw [call_of d17]
  refine run_p rfl rfl ?_ rfl (Nat.zero_le _)
  cases v <;> first | (cases hv; done) | simp [D17, b17, start, isIn]
  rename_i i
  by_cases a : lo ≤ i <;> simp [a]
theorem c2 (hv : v.isD = true) : P.call (k + 1) 2 [v] h = .ok (.bl (isKd v)) h := by
  rw [call_of d2]
  refine run_p rfl rfl ?_ rfl (Nat.zero_le _)
  cases v <;> first | (cases hv; done) | simp [D2, b2, start, isKd, cmp_in_tup, sInt, sText, sFlag]
  rfl
theorem c3 (hv : v.isD = true) : P.call (k + 1) 3 [v] h = .ok (.bl (isTx v)) h := by
  rw [call_of d3]
  refine run_p rfl rfl ?_ rfl (Nat.zero_le _)
  cases v <;> first | (cases hv; done) | simp [D3, b3, start, isTx]
  rename_i x
  by_cases hx : x.length ≤ 30
  · have hx' : (x.length : Int) ≤ 30 := by omega
    have hz : x.length ≤ zLine := by unfold zLine; omega
    simp only [hx', hx, decide_true, Bool.true_and]
    rw [compL_map (g := fun v => match v with
      | .str [c] => .bl (okC c)
      | _ => .non) rfl]
    · simp [List.map_map, hz, Function.comp_def, allB_map]
    · intro y hy
      obtain ⟨c, _, rfl⟩ := List.mem_map.mp hy
      by_cases h1 : c < 32 <;> by_cases h2 : 126 < c <;> simp [cbody, ocond, okC, h1, h2, lt1] <;> omega
  · have hx' : ¬ (x.length : Int) ≤ 30 := by omega
    simp [hx', hx]
theorem c4 {t : List Nat} (hv : v.isD = true) : P.call (k + 2) 4 [.str t, v] h = .ok (.bl (such t v)) h := by
  rw [call_of d4]
  refine run_p rfl rfl ?_ rfl (Nat.zero_le _)
  unfold such
  have e1 := c1 (k := k) (h := h) (v := v) (lo := -1000000000) (hi := 1000000000) hv
  have e3 := c3 (k := k) (h := h) (v := v) hv
  by_cases q1 : t = sInt
  · have q : t = [105, 110, 116] := q1
    simp [D4, b4, start, q1, e1, show (sInt : List Nat) = [105, 110, 116] from rfl]
  · have q : ¬ t = [105, 110, 116] := q1
    by_cases q2 : t = sText
    · have q' : t = [116, 101, 120, 116] := q2
      subst q2
      simp [D4, b4, start, q1, e3, show (sText : List Nat) = [116, 101, 120, 116] from rfl, sInt]
    · have q' : ¬ t = [116, 101, 120, 116] := q2
      cases v <;> first | (cases hv; done) | simp [D4, b4, start, q1, q2, q, q', isBl]
end
end Z
-- ZV1
set_option Elab.async false
set_option linter.all false
set_option maxRecDepth 100000
set_option maxHeartbeats 4000000
/-! Layer ZV, part 1: values.py, conversions. -/
namespace Z
open G
/-! ### figures -/
theorem cut_u1 {α : Type} (x : List α) : cutL x none (some 1) = x.take 1 := by
  simp [cutL, sIx]
theorem cut_l1 {α : Type} (x : List α) : cutL x (some 1) none = x.drop 1 := by
  simp [cutL, sIx]
  cases x with
  | nil => simp
  | cons a r =>
    have : min 1 (r.length + 1) = 1 := by omega
    simp [this]
theorem contains_dig (c : Nat) : ([48, 49, 50, 51, 52, 53, 54, 55, 56, 57] : List Nat).contains c = isDig c := by
  rw [Bool.eq_iff_iff]
  simp only [List.contains_iff_mem, List.mem_cons, List.not_mem_nil, or_false, isDig, Bool.and_eq_true, decide_eq_true_eq]
  omega
@[simp high] theorem in_dig (h : AH) (c : Nat) : cmpV h .isin (.str [c]) (.str [48, 49, 50, 51, 52, 53, 54, 55, 56, 57]) = some (isDig c) := (cmp_in_str h c _).trans (by rw [contains_dig])
@[simp high] theorem nin_dig (h : AH) (c : Nat) : cmpV h .nin (.str [c]) (.str [48, 49, 50, 51, 52, 53, 54, 55, 56, 57]) = some (!isDig c) := (cmp_nin_str h c _).trans (by rw [contains_dig])
theorem foldl_lt : ∀ (x : List Nat) (n : Nat), x.all isDig = true → x.foldl (fun n c => n * 10 + (c - 48)) n < (n + 1) * 10 ^ x.length
  | [], n, _ => by simp
  | c :: r, n, h => by
    rw [List.all_cons, Bool.and_eq_true] at h
    have hc : c - 48 ≤ 9 := by
      have := h.1
      simp only [isDig, Bool.and_eq_true, decide_eq_true_eq] at this
      omega
    have ih := foldl_lt r (n * 10 + (c - 48)) h.2
    rw [List.foldl_cons, List.length_cons, Nat.pow_succ]
    have : (n * 10 + (c - 48) + 1) * 10 ^ r.length ≤ ((n + 1) * 10) * 10 ^ r.length := Nat.mul_le_mul_right _ (by omega)
    rw [Nat.mul_comm (10 ^ r.length) 10, ← Nat.mul_assoc]
    omega
theorem natOf_lt {x : List Nat} (h : x.all isDig = true) (hl : x.length ≤ 10) : natOf x < 10000000000 := by
  have := foldl_lt x 0 h
  have h2 : 10 ^ x.length ≤ 10 ^ 10 := Nat.pow_le_pow_right (by omega) hl
  unfold natOf
  omega
def figs (x : List Nat) : List Nat := if x.take 1 = [45] then x.drop 1 else x
def figOk (x : List Nat) : Bool := !(figs x).isEmpty && decide ((figs x).length ≤ 10) && (figs x).all isDig
theorem take1 {x : List Nat} (h : x.take 1 = [45]) : ∃ r, x = 45 :: r := by
  cases x with
  | nil => cases h
  | cons a r =>
    have : a = 45 := by simpa using h
    exact ⟨r, by rw [this]⟩
theorem intOf_figs {x : List Nat} (h : figOk x = true) : ∃ n : Int, intOf x = some n ∧ n.natAbs < 10000000000 := by
  unfold figOk figs at h
  simp only [Bool.and_eq_true, decide_eq_true_eq, Bool.not_eq_true'] at h
  obtain ⟨⟨h1, h2⟩, h3⟩ := h
  by_cases ht : x.take 1 = [45]
  · rw [if_pos ht] at h1 h2 h3
    obtain ⟨r, rfl⟩ := take1 ht
    have h1' : r.isEmpty = false := h1
    have h2' : r.length ≤ 10 := h2
    have h3' : r.all isDig = true := h3
    have := natOf_lt h3' h2'
    refine ⟨-(natOf r : Int), ?_, by omega⟩
    show ocond (!r.isEmpty && r.all isDig && decide (r.length ≤ 600)) (-(natOf r : Int)) = _
    rw [h1', h3', decide_eq_true (show r.length ≤ 600 by omega)]
    rfl
  · rw [if_neg ht] at h1 h2 h3
    have := natOf_lt h3 h2
    refine ⟨(natOf x : Int), ?_, by omega⟩
    have e : intOf x = ocond (!x.isEmpty && x.all isDig && decide (x.length ≤ 600)) (natOf x : Int) := by
      unfold intOf
      split
      · exact absurd rfl ht
      · rfl
    rw [e, h1, h3, decide_eq_true (show x.length ≤ 600 by omega)]
    rfl
/-- the integer that a text writes -/
def integerOf (x : List Nat) : Option Int := match figOk x with
  | true => match intOf x with
    | some n => if strI n = x ∧ -1000000000 ≤ n ∧ n ≤ 1000000000 then some n else none
    | none => none
  | false => none
def sTrue : List Nat := [116, 114, 117, 101]
def sFalse : List Nat := [102, 97, 108, 115, 101]
def change (v : PV) (kd : List Nat) : Option PV := match v with
  | .non => some .non
  | .int i => if kd = sInt then some (.int i) else if kd = sText then some (.str (strI i)) else if i = 0 ∨ i = 1 then some (.bl (decide (i = 1))) else none
  | .bl b => if kd = sFlag then some (.bl b) else if kd = sInt then some (.int (b2i b)) else some (.str (if b = true then sTrue else sFalse))
  | .str x => if kd = sText then some (.str x) else if kd = sFlag then (if x = sFalse ∨ x = sTrue then some (.bl (decide (x = sTrue))) else none) else (integerOf x).map .int
  | _ => none
def chgV : Option PV → PV
  | some r => .tup [.bl true, r]
  | none => .tup [.bl false, .non]
def opI : Option Int → PV
  | some n => .int n
  | none => .non
/-- the kind of a value -/
def kdV : PV → PV
  | .non => .non
  | .bl _ => .str sFlag
  | .int _ => .str sInt
  | _ => .str sText
theorem small_1900 {i : Int} (h : i.natAbs < 10000000000) : i.natAbs < 2 ^ 1900 := Nat.lt_of_lt_of_le h (by
  have : (10000000000 : Nat) ≤ 2 ^ 34 := by decide
  exact Nat.le_trans this (Nat.pow_le_pow_right (by omega) (by omega)))
section
variable {k : Nat} {h : AH} {v : PV}
theorem c7 (hv : v.isD = true) : P.call (k + 1) 7 [v] h = .ok (kdV v) h := by
  rw [call_of d7]
  cases v <;> first | (cases hv; done) | exact run_p rfl rfl (by simp [D7, b7, start, kdV, sFlag, sInt, sText]) rfl (Nat.zero_le _)
theorem c8 {x : List Nat} (hx : x.length ≤ 1000000) : P.call (k + 2) 8 [.str x] h = .ok (opI (integerOf x)) h := by
  rw [call_of d8]
  refine run_p rfl rfl ?_ (by cases integerOf x <;> rfl) (by cases integerOf x <;> exact Nat.zero_le _)
  have hf : (if x.take 1 = [45] then (Res.ok (.str (x.drop 1)) h : Res PV) else .ok (.str x) h) = .ok (.str (figs x)) h := by
    unfold figs
    split <;> rfl
  have a1 : evE (P.ctx (P.call (k + 1))) (.ife (.cmp .eq (.slc (.var 0) [] [(.cst (.int 1))]) (.cst (.str [45]))) (.slc (.var 0) [(.cst (.int 1))] []) (.var 0)) [some (.str x), none, none, none] h = .ok (.str (figs x)) h := by
    unfold figs
    by_cases ht : x.take 1 = [45] <;> simp [cut_u1, cut_l1, ht]
  have a2 : evE (P.ctx (P.call (k + 1))) (.or [(.cmp .eq (.var 1) (.cst (.str []))), (.cmp .gt (.bi .len [(.var 1)]) (.cst (.int 10))), (.not (.bi .all [(.frz (.comp [3] (.cmp .isin (.var 3) (.cst (.str [48, 49, 50, 51, 52, 53, 54, 55, 56, 57]))) (.name 3) (.val (.var 1)) []))]))]) [some (.str x), some (.str (figs x)), none, none] h = .ok (.bl (!figOk x)) h := by
    unfold figOk
    by_cases h1 : figs x = []
    · simp [h1]
    · have h1' : (figs x).isEmpty = false := by simpa using h1
      by_cases h2 : (figs x).length ≤ 10
      · have h2' : ¬ (10 : Int) < ((figs x).length : Int) := by omega
        have hz : (figs x).length ≤ zLine := by unfold zLine; omega
        simp [h1, h2, h2']
        rw [compL_map (g := fun v => match v with
          | .str [c] => .bl (isDig c)
          | _ => .non) rfl]
        · simp [List.map_map, hz, Function.comp_def, allB_map, h1]
        · intro y hy
          obtain ⟨c, _, rfl⟩ := List.mem_map.mp hy
          simp [cbody, ocond]
      · have h2' : (10 : Int) < ((figs x).length : Int) := by omega
        simp [h1, h2, h2']
  unfold D8 b8 start
  simp only [evSs_cons, evS_asg, evS_ife, List.map_cons, List.map_nil, List.replicate, List.cons_append, List.nil_append, a1, Res.bnd_ok, List.length_cons, List.length_nil, List.set_cons_succ, List.set_cons_zero, show (4 - 1 : Nat) = 3 from rfl, decide_true, grd_true, show decide (1 < 0 + 1 + 1 + 1 + 1) = true from rfl, a2]
  unfold integerOf
  cases hfo : figOk x with
  | false => simp [opI]
  | true =>
    obtain ⟨n, e, hn⟩ := intOf_figs hfo
    have e1 := c1 (k := k) (h := h) (v := .int n) (lo := -1000000000) (hi := 1000000000) rfl
    simp [e, str_int h (small_1900 hn), e1, isIn]
    by_cases q1 : strI n = x <;> by_cases q2 : -1000000000 ≤ n <;> by_cases q3 : n ≤ 1000000000 <;> simp [q1, q2, q3, opI]
/-- a value that may be converted -/
def isP : PV → Bool
  | .non => true
  | .bl _ => true
  | .int i => decide (i.natAbs < 10000000000)
  | .str x => decide (x.length ≤ 1000000)
  | _ => false
theorem isP_D (hv : isP v = true) : v.isD = true := by
  cases v <;> first | rfl | cases hv
def kdOk (t : List Nat) : Bool := decide (t = sInt) || decide (t = sText) || decide (t = sFlag)
theorem chg_D {v : PV} {kd : List Nat} : (chgV (change v kd)).isD = true ∧ (chgV (change v kd)).depth ≤ 1 := by
  have key : ∀ o : Option PV, (∀ r, o = some r → r.isD = true ∧ r.depth = 0) → (chgV o).isD = true ∧ (chgV o).depth ≤ 1 := fun o ho => by
    cases o with
    | none => exact ⟨rfl, Nat.le_refl _⟩
    | some r =>
      obtain ⟨h1, h2⟩ := ho r rfl
      simp [chgV, h1, h2]
  refine key _ fun r hr => ?_
  cases v with
  | non => cases hr; exact ⟨rfl, rfl⟩
  | int i =>
    simp only [change] at hr
    split at hr
    · cases hr; exact ⟨rfl, rfl⟩
    · split at hr
      · cases hr; exact ⟨rfl, rfl⟩
      · split at hr
        · cases hr; exact ⟨rfl, rfl⟩
        · cases hr
  | bl b =>
    simp only [change] at hr
    split at hr
    · cases hr; exact ⟨rfl, rfl⟩
    · split at hr
      · cases hr; exact ⟨rfl, rfl⟩
      · cases hr; exact ⟨rfl, rfl⟩
  | str x =>
    simp only [change] at hr
    split at hr
    · cases hr; exact ⟨rfl, rfl⟩
    · split at hr
      · split at hr
        · cases hr; exact ⟨rfl, rfl⟩
        · cases hr
      · cases e : integerOf x with
        | none => rw [e] at hr; cases hr
        | some n => rw [e] at hr; cases hr; exact ⟨rfl, rfl⟩
  | _ => cases hr
theorem c9 {kd : List Nat} (hv : isP v = true) (hk : kdOk kd = true) : P.call (k + 3) 9 [v, .str kd] h = .ok (chgV (change v kd)) h := by
  rw [call_of d9]
  refine run_p rfl rfl ?_ chg_D.1 (Nat.le_trans chg_D.2 (by omega))
  have e7 := c7 (k := k + 1) (h := h) (v := v) (isP_D hv)
  have hk' : kd = sInt ∨ kd = sText ∨ kd = sFlag := by
    simp only [kdOk, Bool.or_eq_true, decide_eq_true_eq] at hk
    rcases hk with (q | q) | q
    · exact .inl q
    · exact .inr (.inl q)
    · exact .inr (.inr q)
  cases v with
  | non => simp [D9, b9, start, e7, kdV, change, chgV]
  | int i =>
    have hi : i.natAbs < 10000000000 := of_decide_eq_true hv
    rcases hk' with rfl | rfl | rfl
    · simp [D9, b9, start, e7, kdV, change, chgV, sInt]
    · simp [D9, b9, start, e7, kdV, change, chgV, sInt, sText, str_int h (small_1900 hi)]
    · by_cases i0 : i = 0
      · subst i0
        simp [D9, b9, start, e7, kdV, change, chgV, sInt, sText, sFlag, cmp_in_tup]
      · by_cases i1 : i = 1
        · subst i1
          simp [D9, b9, start, e7, kdV, change, chgV, sInt, sText, sFlag, cmp_in_tup]
        · have j0 : ((0 : Int) == i) = false := by simp; omega
          have j1 : ((1 : Int) == i) = false := by simp; omega
          simp [D9, b9, start, e7, kdV, change, chgV, sInt, sText, sFlag, cmp_in_tup, i0, i1, j0, j1]
  | bl b =>
    rcases hk' with rfl | rfl | rfl
    · simp [D9, b9, start, e7, kdV, change, chgV, sInt, sFlag]
    · cases b <;> simp [D9, b9, start, e7, kdV, change, chgV, sInt, sFlag, sText, sTrue, sFalse]
    · simp [D9, b9, start, e7, kdV, change, chgV, sFlag]
  | str x =>
    have hx : x.length ≤ 1000000 := of_decide_eq_true hv
    rcases hk' with rfl | rfl | rfl
    · have e8 := c8 (k := k) (h := h) hx
      simp [D9, b9, start, e7, kdV, change, chgV, sInt, sFlag, sText, e8]
      cases integerOf x <;> simp [opI]
    · simp [D9, b9, start, e7, kdV, change, chgV, sText]
    · by_cases q1 : x = sFalse
      · subst q1
        have e7 : P.call (k + 2) 7 [.str [102, 97, 108, 115, 101]] h = _ := e7
        simp [D9, b9, start, e7, kdV, change, chgV, sInt, sFlag, sText, sTrue, sFalse, cmp_in_tup]
      · by_cases q2 : x = sTrue
        · subst q2
          have e7 : P.call (k + 2) 7 [.str [116, 114, 117, 101]] h = _ := e7
          simp [D9, b9, start, e7, kdV, change, chgV, sInt, sFlag, sText, sTrue, sFalse, cmp_in_tup]
        · have q1' : ¬ [102, 97, 108, 115, 101] = x := fun e => q1 e.symm
          have q2' : ¬ [116, 114, 117, 101] = x := fun e => q2 e.symm
          simp [D9, b9, start, e7, kdV, change, chgV, sInt, sFlag, sText, q1, q2, q1', q2', cmp_in_tup]
  | _ => cases hv
theorem c5 (hv : v.isD = true) : P.call (k + 2) 5 [v] h = if isKd v = true then .ok .non h else .exc ⟨1, none⟩ h := by
  rw [call_of d5]
  have e2 := c2 (k := k) (h := h) hv
  cases q : isKd v with
  | true =>
    rw [q] at e2
    exact run_n (ρ := [some v]) rfl rfl (by simp [D5, b5, start, e2])
  | false =>
    rw [q] at e2
    exact run_x rfl (by simp [D5, b5, start, e2])
theorem isKd_str (hv : isKd v = true) : ∃ t, v = .str t ∧ kdOk t = true := by
  cases v with
  | str x =>
    refine ⟨x, rfl, ?_⟩
    simp only [isKd, Bool.or_eq_true, decide_eq_true_eq] at hv
    simp only [kdOk, Bool.or_eq_true, decide_eq_true_eq]
    rcases hv with q | q | q
    · exact .inl (.inl q.symm)
    · exact .inl (.inr q.symm)
    · exact .inr q.symm
  | _ => cases hv
theorem c6 {kd : PV} (hv : v.isD = true) (hk : kd.isD = true) : P.call (k + 3) 6 [kd, v] h = match kd with
    | .str t => if isKd (.str t) = true then .ok (.bl (such t v)) h else .exc ⟨1, none⟩ h
    | _ => .exc ⟨1, none⟩ h := by
  rw [call_of d6]
  have e5 := c5 (k := k) (h := h) hk
  cases q : isKd kd with
  | true =>
    obtain ⟨t, rfl, _⟩ := isKd_str q
    rw [q, if_pos rfl] at e5
    have e4 := c4 (k := k) (h := h) (t := t) hv
    simp only [q, if_true]
    exact run_p rfl rfl (by simp [D6, b6, start, e5, e4]) rfl (Nat.zero_le _)
  | false =>
    rw [q, if_neg (by decide)] at e5
    have : runDef (P.ctx (P.call (k + 2))) D6 [kd, v] h = .exc ⟨1, none⟩ h := run_x rfl (by simp [D6, b6, start, e5])
    rw [this]
    cases kd with
    | str t => simp [q]
    | _ => rfl
def valid (v : PV) : Bool := such sInt v || such sText v || such sFlag v
theorem valid_P (h : valid v = true) : isP v = true := by
  cases v with
  | int i =>
    simp [valid, such, sInt, sText, sFlag, isIn, isTx, isBl] at h
    simp only [isP, decide_eq_true_eq]
    omega
  | str x =>
    simp [valid, such, sInt, sText, sFlag, isIn, isTx, isBl] at h
    simp only [isP, decide_eq_true_eq]
    omega
  | bl _ => rfl
  | _ => cases h
/-- what converted does -/
def conv (v kd : PV) (h : AH) : Res PV :=
  if v ≠ .non ∧ valid v = false then .exc ⟨0, none⟩ h else match kd with
    | .str t => if kdOk t = true then (match change v t with
      | some r => .ok r h
      | none => .exc ⟨2, none⟩ h) else .exc ⟨1, none⟩ h
    | _ => .exc ⟨1, none⟩ h
theorem kdOk_isKd {t : List Nat} : isKd (.str t) = kdOk t := by
  simp only [isKd, kdOk, eq_comm (b := t), Bool.or_assoc]
theorem c10 {kd : PV} (hv : v.isD = true) (hk : kd.isD = true) : P.call (k + 4) 10 [v, kd] h = conv v kd h := by
  rw [call_of d10]
  have e4 : ∀ t, P.call (k + 3) 4 [.str t, v] h = .ok (.bl (such t v)) h := fun t => c4 (k := k + 1) (h := h) (t := t) hv
  have e5 := c5 (k := k + 1) (h := h) hk
  have a1 : evE (P.ctx (P.call (k + 3))) (.and [(.cmp .isn (.var 0) (.cst .non)), (.not (.bi .any [(.frz (.comp [4] (.call 4 [(.var 4), (.var 0)]) (.name 4) (.val (.cst (.tup [(.str [105, 110, 116]), (.str [116, 101, 120, 116]), (.str [102, 108, 97, 103])]))) []))]))]) [some v, some kd, none, none, none] h = .ok (.bl (decide (v ≠ .non) && !valid v)) h := by
    have ee : ∀ b1 b2 b3 : Bool, allB [.bl b1, .bl b2, .bl b3] = some [b1, b2, b3] := fun _ _ _ => rfl
    have hc : compL none (cbody (P.ctx (P.call (k + 3))) [4] (.call 4 [(.var 4), (.var 0)]) (.name 4) [] [some v, some kd, none, none, none]) [.str [105, 110, 116], .str [116, 101, 120, 116], .str [102, 108, 97, 103]] h = .ok [.bl (such sInt v), .bl (such sText v), .bl (such sFlag v)] h := by
      rw [compL_map (g := fun y => match y with
          | .str t => .bl (such t v)
          | _ => .non) rfl]
      · rfl
      · intro y hy
        simp only [List.mem_cons, List.not_mem_nil, or_false] at hy
        rcases hy with rfl | rfl | rfl <;> simp [cbody, ocond, e4]
    have hn : cmpV h .isn v .non = some (decide (v ≠ .non)) := by
      cases v <;> first | (cases hv; done) | simp
    by_cases hv0 : v = .non
    · subst hv0
      simp
    · simp only [evE_and, evAnd_cons, evE_cmp, evE_var, evE_cst, Res.bnd_ok, List.getElem?_cons_zero, hn, Option.map_some, ofO_some, tru_bl, hv0, ne_eq, not_false_eq_true, decide_true, evAnd_one, evE_not, evE_bi, evEs_cons, evEs_nil, evE_frz, evA_comp, evI_val, itV_tup]
      rw [hc]
      simp [ee, valid, show [such sInt v, such sText v, such sFlag v].length = 3 from rfl, show (3 : Nat) ≤ zLine from by decide, Bool.or_assoc]
  by_cases hb : (v ≠ .non ∧ valid v = false)
  · have hb' : (decide (v ≠ .non) && !valid v) = true := by simp [hb.1, hb.2]
    rw [hb'] at a1
    have : runDef (P.ctx (P.call (k + 3))) D10 [v, kd] h = .exc ⟨0, none⟩ h := run_x rfl (by
      unfold D10 b10 start
      simp only [evSs_cons, evS_ife, List.map_cons, List.map_nil, List.replicate, List.cons_append, List.nil_append, show (5 - 2 : Nat) = 3 from rfl]
      rw [a1]
      simp)
    rw [this]
    simp only [conv, if_pos hb]
  · have hb' : (decide (v ≠ .non) && !valid v) = false := by
      cases q : decide (v ≠ .non) <;> cases q2 : valid v <;> simp_all
    rw [hb'] at a1
    have hP : isP v = true := by
      by_cases q : v = .non
      · rw [q]
        rfl
      · have : valid v = true := by
          cases q2 : valid v with
          | true => rfl
          | false => exact absurd ⟨q, q2⟩ hb
        exact valid_P this
    simp only [conv, if_neg hb]
    cases q : isKd kd with
    | false =>
      rw [q, if_neg (by decide)] at e5
      have : runDef (P.ctx (P.call (k + 3))) D10 [v, kd] h = .exc ⟨1, none⟩ h := run_x rfl (by
        unfold D10 b10 start
        simp only [evSs_cons, evS_ife, List.map_cons, List.map_nil, List.replicate, List.cons_append, List.nil_append, show (5 - 2 : Nat) = 3 from rfl]
        rw [a1]
        simp [e5])
      rw [this]
      cases kd with
      | str t =>
        rw [kdOk_isKd] at q
        simp [q]
      | _ => rfl
    | true =>
      obtain ⟨t, rfl, ht⟩ := isKd_str q
      rw [q, if_pos rfl] at e5
      have e9 := c9 (k := k) (h := h) hP ht
      have hc := chg_D (v := v) (kd := t)
      simp only [ht, if_true]
      cases ec : change v t with
      | some r =>
        rw [ec] at e9 hc
        have hr : r.isD = true ∧ r.depth = 0 := by
          simp [chgV] at hc
          exact hc
        refine run_p rfl rfl ?_ hr.1 (by rw [hr.2]; omega)
        unfold D10 b10 start
        simp only [evSs_cons, evS_ife, List.map_cons, List.map_nil, List.replicate, List.cons_append, List.nil_append, show (5 - 2 : Nat) = 3 from rfl]
        rw [a1]
        simp [e5, e9, chgV, ocond]
      | none =>
        rw [ec] at e9
        refine run_x rfl ?_
        unfold D10 b10 start
        simp only [evSs_cons, evS_ife, List.map_cons, List.map_nil, List.replicate, List.cons_append, List.nil_append, show (5 - 2 : Nat) = 3 from rfl]
        rw [a1]
        simp [e5, e9, chgV, ocond]
end
end Z
-- ZS0
set_option Elab.async false
set_option linter.all false
set_option maxRecDepth 100000
/-! Layer ZS: numbers as texts. -/
namespace Z
theorem digs_ne {n : Nat} : digs n ≠ [] := by
  unfold digs
  intro e
  exact Nat.toDigits_ne_nil (List.map_eq_nil_iff.mp e)
theorem digs_all {n : Nat} : (digs n).all isDig = true := by
  rw [List.all_eq_true]
  intro c hc
  obtain ⟨d, hd, rfl⟩ := List.mem_map.mp hc
  have h := Nat.isDigit_of_mem_toDigits (b := 10) (by decide) (by decide) hd
  simp only [Char.isDigit, Bool.and_eq_true, decide_eq_true_eq] at h
  simp only [isDig, Bool.and_eq_true, decide_eq_true_eq]
  have h1 : (48 : UInt32) ≤ d.val := h.1
  have h2 : d.val ≤ (57 : UInt32) := h.2
  have g1 : (48 : UInt32).toNat ≤ d.val.toNat := UInt32.le_iff_toNat_le.mp h1
  have g2 : d.val.toNat ≤ (57 : UInt32).toNat := UInt32.le_iff_toNat_le.mp h2
  exact ⟨g1, g2⟩
theorem natOf_digs {n : Nat} : natOf (digs n) = n := by
  have h := Nat.ofDigitChars_ten_toDigits (n := n)
  rw [Nat.ofDigitChars_eq_foldl] at h
  unfold natOf digs
  rw [List.foldl_map]
  have : ∀ (l : List Char) (a : Nat), l.foldl (fun n c => n * 10 + (c.toNat - 48)) a = l.foldl (fun sofar c => 10 * sofar + (c.toNat - '0'.toNat)) a := fun l => by
    induction l with
    | nil => intro a; rfl
    | cons c r ih =>
      intro a
      rw [List.foldl_cons, List.foldl_cons, ih]
      congr 1
      show a * 10 + (c.toNat - 48) = 10 * a + (c.toNat - 48)
      omega
  rw [this]
  exact h
theorem digs_len {n k : Nat} (hk : 0 < k) : (digs n).length ≤ k ↔ n < 10 ^ k := by
  unfold digs
  rw [List.length_map]
  exact Nat.length_toDigits_le_iff (by decide) hk
theorem intOf_cons {c : Nat} {r : List Nat} (h : c ≠ 45) : intOf (c :: r) = ocond (!(c :: r).isEmpty && (c :: r).all isDig && decide ((c :: r).length ≤ 600)) (natOf (c :: r) : Int) := by
  unfold intOf
  split
  · rename_i e
    injection e with e1 e2
    exact absurd e1 h
  · rfl
theorem intOf_strI {i : Int} (hi : i.natAbs < 10000000000) : intOf (strI i) = some i := by
  have hl : (digs i.natAbs).length ≤ 10 := (digs_len (by omega)).mpr hi
  have hall := digs_all (n := i.natAbs)
  have hn := natOf_digs (n := i.natAbs)
  unfold strI
  by_cases h0 : i < 0
  · rw [if_pos h0]
    show ocond (!(digs i.natAbs).isEmpty && (digs i.natAbs).all isDig && decide ((digs i.natAbs).length ≤ 600)) (-(natOf (digs i.natAbs) : Int)) = _
    have he : (digs i.natAbs).isEmpty = false := by simpa using digs_ne (n := i.natAbs)
    rw [he, hall, decide_eq_true (show (digs i.natAbs).length ≤ 600 by omega), hn]
    show some (-(i.natAbs : Int)) = some i
    congr 1
    omega
  · rw [if_neg h0]
    cases q : digs i.natAbs with
    | nil => exact absurd q digs_ne
    | cons c r =>
      rw [q] at hall hl hn
      have hc : c ≠ 45 := by
        rw [List.all_cons, Bool.and_eq_true] at hall
        have := hall.1
        simp only [isDig, Bool.and_eq_true, decide_eq_true_eq] at this
        omega
      rw [intOf_cons hc, hall, decide_eq_true (show (c :: r).length ≤ 600 by omega), hn]
      show some (i.natAbs : Int) = some i
      congr 1
      omega
theorem strI_inj {i j : Int} (hi : i.natAbs < 10000000000) (hj : j.natAbs < 10000000000) (e : strI i = strI j) : i = j := by
  have h1 := intOf_strI hi
  rw [e, intOf_strI hj] at h1
  exact (Option.some.inj h1).symm
theorem strI_0 : strI 0 = [48] := by decide
theorem strI_1 : strI 1 = [49] := by decide
end Z
-- ZV2
set_option Elab.async false
set_option linter.all false
set_option maxRecDepth 100000
set_option maxHeartbeats 4000000
/-! Layer ZV, part 2: the laws' own values. -/
namespace Z
open G
section
variable {k : Nat} {h : AH} {v : PV}
theorem c18 {t : List Nat} (hv : v.isD = true) (ht : kdOk t = true) : P.call (k + 2) 18 [.str t, v] h = .ok (.bl (such t v)) h := by
  rw [call_of d18]
  refine run_p rfl rfl ?_ rfl (Nat.zero_le _)
  have p9 : binV h .pow (.int 10) (.int 9) = some (.int 1000000000) := (bin_pow (by decide) (by decide) (by decide)).trans rfl
  have e17 := c17 (k := k) (h := h) (v := v) (lo := -1000000000) (hi := 1000000000) hv
  have ht' : t = sInt ∨ t = sText ∨ t = sFlag := by
    simp only [kdOk, Bool.or_eq_true, decide_eq_true_eq] at ht
    rcases ht with (q | q) | q
    · exact .inl q
    · exact .inr (.inl q)
    · exact .inr (.inr q)
  rcases ht' with rfl | rfl | rfl
  · simp [D18, b18, start, such, sInt, p9, e17]
  · cases v <;> first | (cases hv; done) | simp [D18, b18, start, such, sInt, sText, sFlag, isTx]
    rename_i x
    by_cases hx : x.length ≤ 30
    · have hx' : (x.length : Int) ≤ 30 := by omega
      have hz : x.length ≤ zLine := by unfold zLine; omega
      simp only [hx', hx, decide_true, Bool.true_and]
      rw [compL_fm (g := fun v => match v with
        | .str [c] => if okC c = true then none else some (.int 1)
        | _ => none) rfl]
      · have e1 : ∀ l : List Nat, (l.map fun c => (PV.str [c])).filterMap (fun v => match v with
            | .str [c] => if okC c = true then none else some (PV.int 1)
            | _ => none) = (l.filter fun c => !okC c).map fun _ => .int 1 := fun l => by
          induction l with
          | nil => rfl
          | cons c r ih =>
            simp only [List.map_cons, List.filterMap_cons, List.filter_cons, ih]
            cases okC c <;> rfl
        rw [e1]
        have hl : (x.filter fun c => !okC c).length ≤ zLine := Nat.le_trans (List.length_filter_le ..) hz
        have hd : isDs ((x.filter fun c => !okC c).map fun _ => PV.int 1) = true := isDs_iff.mpr fun y hy => by
          obtain ⟨c, _, rfl⟩ := List.mem_map.mp hy
          rfl
        have hdp : depths ((x.filter fun c => !okC c).map fun _ => PV.int 1) ≤ 0 := depths_le.mpr fun y hy => by
          obtain ⟨c, _, rfl⟩ := List.mem_map.mp hy
          exact Nat.le_refl _
        simp [hl]
        rw [cmp_eq _ (by simpa using hd) (by simp) (by simp)]
        have e2 : eqPs ((x.filter fun c => !okC c).map fun _ => PV.int 1) [] = x.all okC := by
          cases q : x.filter fun c => !okC c with
          | nil =>
            rw [List.filter_eq_nil_iff] at q
            have : x.all okC = true := List.all_eq_true.mpr fun c hc => by
              have := q c hc
              simpa using this
            rw [this]
            rfl
          | cons c r =>
            have hc : c ∈ x.filter fun c => !okC c := by rw [q]; exact List.mem_cons_self ..
            obtain ⟨h1, h2⟩ := List.mem_filter.mp hc
            have : x.all okC = false := by
              cases q2 : x.all okC with
              | false => rfl
              | true =>
                rw [List.all_eq_true.mp q2 c h1] at h2
                cases h2
            rw [this]
            rfl
        simp [e2]
      · intro y hy
        obtain ⟨c, _, rfl⟩ := List.mem_map.mp hy
        by_cases h1 : c < 32 <;> by_cases h2 : 126 < c <;> simp [cbody, ocond, okC, h1, h2, lt1] <;> first | omega | (intro _; omega)
    · have hx' : ¬ (x.length : Int) ≤ 30 := by omega
      simp [hx', hx]
  · cases v <;> first | (cases hv; done) | simp [D18, b18, start, such, sInt, sText, sFlag, isBl]
theorem c19 {b c : Bool} : P.call (k + 1) 19 [.bl b, .bl c] h = .ok (.bl (b == c)) h := by
  rw [call_of d19]
  refine run_p rfl rfl ?_ rfl (Nat.zero_le _)
  simp [D19, b19, start, cmp_eq]
/-- the sort of a value -/
def srt : PV → List Nat
  | .non => [103, 97, 112]
  | .bl _ => sFlag
  | .int _ => sInt
  | _ => sText
theorem c20 (hv : v.isD = true) : P.call (k + 1) 20 [v] h = .ok (.str (srt v)) h := by
  rw [call_of d20]
  cases v <;> first | (cases hv; done) | exact run_p rfl rfl (by simp [D20, b20, start, srt, sFlag, sInt, sText]) rfl (Nat.zero_le _)
/-- the text of a value -/
def txt : PV → List Nat
  | .bl b => if b = true then sTrue else sFalse
  | .int i => strI i
  | .str x => x
  | _ => []
theorem c21 (hv : isP v = true) (h0 : v ≠ .non) : P.call (k + 1) 21 [v] h = .ok (.str (txt v)) h := by
  rw [call_of d21]
  refine run_p rfl rfl ?_ rfl (Nat.zero_le _)
  cases v with
  | non => exact absurd rfl h0
  | bl b => cases b <;> simp [D21, b21, start, txt, sTrue, sFalse]
  | int i =>
    have hi : i.natAbs < 10000000000 := of_decide_eq_true hv
    simp [D21, b21, start, txt, str_int h (small_1900 hi)]
  | str x => simp [D21, b21, start, txt]
  | _ => cases hv
/-- (value,) or None -/
def oneV : Option PV → PV
  | some r => .tup [r]
  | none => .non
theorem c22 {kd : List Nat} (hv : isP v = true) (hk : kdOk kd = true) : P.call (k + 2) 22 [v, .str kd] h = .ok (oneV (change v kd)) h := by
  rw [call_of d22]
  have e20 := c20 (k := k) (h := h) (isP_D hv)
  have hD : (oneV (change v kd)).isD = true ∧ (oneV (change v kd)).depth ≤ 1 := by
    have hc := chg_D (v := v) (kd := kd)
    cases e : change v kd with
    | none => simp [oneV]
    | some r =>
      rw [e] at hc
      simp [chgV] at hc
      simp [oneV, hc]
  refine run_p rfl rfl ?_ hD.1 (Nat.le_trans hD.2 (by omega))
  have hk' : kd = sInt ∨ kd = sText ∨ kd = sFlag := by
    simp only [kdOk, Bool.or_eq_true, decide_eq_true_eq] at hk
    rcases hk with (q | q) | q
    · exact .inl q
    · exact .inr (.inl q)
    · exact .inr (.inr q)
  have p9 : binV h .pow (.int 10) (.int 9) = some (.int 1000000000) := (bin_pow (by decide) (by decide) (by decide)).trans rfl
  cases v with
  | non => simp [D22, b22, start, e20, srt, change, oneV, cmp_in_tup]
  | int i =>
    have e21 := c21 (k := k) (h := h) hv (by simp)
    rcases hk' with rfl | rfl | rfl
    · simp [D22, b22, start, e20, srt, change, oneV, sInt, cmp_in_tup]
    · simp [D22, b22, start, e20, e21, txt, srt, change, oneV, sInt, sText, cmp_in_tup]
    · by_cases i0 : i = 0
      · subst i0
        rw [show txt (.int 0) = [48] from strI_0] at e21
        simp [D22, b22, start, e20, e21, srt, change, oneV, sInt, sText, sFlag, cmp_in_tup]
      · by_cases i1 : i = 1
        · subst i1
          rw [show txt (.int 1) = [49] from strI_1] at e21
          simp [D22, b22, start, e20, e21, srt, change, oneV, sInt, sText, sFlag, cmp_in_tup]
        · have hi : i.natAbs < 10000000000 := of_decide_eq_true hv
          have q0 : ¬ [48] = strI i := fun e => i0 (strI_inj hi (by decide) (e.symm.trans strI_0.symm))
          have q1 : ¬ [49] = strI i := fun e => i1 (strI_inj hi (by decide) (e.symm.trans strI_1.symm))
          simp [D22, b22, start, e20, e21, txt, srt, change, oneV, sInt, sText, sFlag, cmp_in_tup, q0, q1, i0, i1]
  | bl b =>
    have e21 := c21 (k := k) (h := h) hv (by simp)
    rcases hk' with rfl | rfl | rfl
    · cases b
      · rw [show txt (.bl false) = [102, 97, 108, 115, 101] from rfl] at e21
        simp [D22, b22, start, e20, e21, srt, change, oneV, sInt, sText, sFlag, cmp_in_tup, b2i]
      · rw [show txt (.bl true) = [116, 114, 117, 101] from rfl] at e21
        simp [D22, b22, start, e20, e21, srt, change, oneV, sInt, sText, sFlag, cmp_in_tup, b2i]
    · cases b
      · rw [show txt (.bl false) = [102, 97, 108, 115, 101] from rfl] at e21
        simp [D22, b22, start, e20, e21, srt, change, oneV, sInt, sText, sFlag, cmp_in_tup, b2i, sFalse]
      · rw [show txt (.bl true) = [116, 114, 117, 101] from rfl] at e21
        simp [D22, b22, start, e20, e21, srt, change, oneV, sInt, sText, sFlag, cmp_in_tup, b2i, sTrue]
    · simp [D22, b22, start, e20, srt, change, oneV, sInt, sText, sFlag, cmp_in_tup]
  | str x =>
    have hx : x.length ≤ 1000000 := of_decide_eq_true hv
    have e21 := c21 (k := k) (h := h) hv (by simp)
    rw [show txt (.str x) = x from rfl] at e21
    rcases hk' with rfl | rfl | rfl
    · -- a text to an integer
      have a1 : evE (P.ctx (P.call (k + 1))) (.ife (.cmp .eq (.slc (.var 3) [] [(.cst (.int 1))]) (.cst (.str [45]))) (.slc (.var 3) [(.cst (.int 1))] []) (.var 3)) [some (.str x), some (.str sInt), some (.str sText), some (.str x), none, none, none, none] h = .ok (.str (figs x)) h := by
        unfold figs
        by_cases ht : x.take 1 = [45] <;> simp [cut_u1, cut_l1, ht]
      have a2 : evE (P.ctx (P.call (k + 1))) (.or [(.cmp .eq (.var 4) (.cst (.str []))), (.cmp .gt (.bi .len [(.var 4)]) (.cst (.int 10))), (.cmp .ne (.frz (.comp [7] (.var 7) (.name 7) (.val (.var 4)) [(.cmp .nin (.var 7) (.cst (.str [48, 49, 50, 51, 52, 53, 54, 55, 56, 57])))])) (.frz (.disp [])))]) [some (.str x), some (.str sInt), some (.str sText), some (.str x), some (.str (figs x)), none, none, none] h = .ok (.bl (!figOk x)) h := by
        unfold figOk
        by_cases h1 : figs x = []
        · simp [h1]
        · by_cases h2 : (figs x).length ≤ 10
          · have h2' : ¬ (10 : Int) < ((figs x).length : Int) := by omega
            have hz : (figs x).length ≤ zLine := by unfold zLine; omega
            simp [h1, h2, h2']
            rw [compL_fm (g := fun v => match v with
              | .str [c] => if isDig c = true then none else some (.str [c])
              | _ => none) rfl]
            · have e1 : ∀ l : List Nat, (l.map fun c => (PV.str [c])).filterMap (fun v => match v with
                  | .str [c] => if isDig c = true then none else some (PV.str [c])
                  | _ => none) = (l.filter fun c => !isDig c).map fun c => .str [c] := fun l => by
                induction l with
                | nil => rfl
                | cons c r ih =>
                  simp only [List.map_cons, List.filterMap_cons, List.filter_cons, ih]
                  cases isDig c <;> rfl
              rw [e1]
              have hl : ((figs x).filter fun c => !isDig c).length ≤ zLine := Nat.le_trans (List.length_filter_le ..) hz
              have hd : isDs (((figs x).filter fun c => !isDig c).map fun c => PV.str [c]) = true := isDs_iff.mpr fun y hy => by
                obtain ⟨c, _, rfl⟩ := List.mem_map.mp hy
                rfl
              have hdp : depths (((figs x).filter fun c => !isDig c).map fun c => PV.str [c]) ≤ 0 := depths_le.mpr fun y hy => by
                obtain ⟨c, _, rfl⟩ := List.mem_map.mp hy
                exact Nat.le_refl _
              simp [hl]
              rw [cmp_ne _ (by simpa using hd) (by simp) (by simp)]
              have e2 : eqPs (((figs x).filter fun c => !isDig c).map fun c => PV.str [c]) [] = (figs x).all isDig := by
                cases q : (figs x).filter fun c => !isDig c with
                | nil =>
                  rw [List.filter_eq_nil_iff] at q
                  have : (figs x).all isDig = true := List.all_eq_true.mpr fun c hc => by
                    have := q c hc
                    simpa using this
                  rw [this]
                  rfl
                | cons c r =>
                  have hc : c ∈ (figs x).filter fun c => !isDig c := by rw [q]; exact List.mem_cons_self ..
                  obtain ⟨h1, h2⟩ := List.mem_filter.mp hc
                  have : (figs x).all isDig = false := by
                    cases q2 : (figs x).all isDig with
                    | false => rfl
                    | true =>
                      rw [List.all_eq_true.mp q2 c h1] at h2
                      cases h2
                  rw [this]
                  rfl
              have h1' : (figs x).isEmpty = false := by simpa using h1
              simp [e2, h1]
            · intro y hy
              obtain ⟨c, _, rfl⟩ := List.mem_map.mp hy
              cases q : isDig c <;> simp [cbody, ocond, q]
          · have h2' : (10 : Int) < ((figs x).length : Int) := by omega
            simp [h1, h2, h2']
      have eq1 : evSs (P.ctx (P.call (k + 1))) D22.body (start D22 [.str x, .str sInt]) h = evSs (P.ctx (P.call (k + 1))) [(.asg 4 (.ife (.cmp .eq (.slc (.var 3) [] [(.cst (.int 1))]) (.cst (.str [45]))) (.slc (.var 3) [(.cst (.int 1))] []) (.var 3))),
   (.ife (.or [(.cmp .eq (.var 4) (.cst (.str []))), (.cmp .gt (.bi .len [(.var 4)]) (.cst (.int 10))), (.cmp .ne (.frz (.comp [7] (.var 7) (.name 7) (.val (.var 4)) [(.cmp .nin (.var 7) (.cst (.str [48, 49, 50, 51, 52, 53, 54, 55, 56, 57])))])) (.frz (.disp [])))])
    [(.ret (.cst .non))]
    []),
   (.asg 5 (.bi .int [(.var 3)])),
   (.ret (.ife (.and [(.cmp .eq (.bi .str [(.var 5)]) (.var 3)), (.chain .le .le (.neg (.bin .pow (.cst (.int 10)) (.cst (.int 9)))) (.var 5) (.bin .pow (.cst (.int 10)) (.cst (.int 9))))]) (.tup [(.var 5)]) (.cst .non)))] [some (.str x), some (.str sInt), some (.str sText), some (.str x), none, none, none, none] h := by
        generalize hR : [(S.asg 4 (.ife (.cmp .eq (.slc (.var 3) [] [(.cst (.int 1))]) (.cst (.str [45]))) (.slc (.var 3) [(.cst (.int 1))] []) (.var 3))),
   (.ife (.or [(.cmp .eq (.var 4) (.cst (.str []))), (.cmp .gt (.bi .len [(.var 4)]) (.cst (.int 10))), (.cmp .ne (.frz (.comp [7] (.var 7) (.name 7) (.val (.var 4)) [(.cmp .nin (.var 7) (.cst (.str [48, 49, 50, 51, 52, 53, 54, 55, 56, 57])))])) (.frz (.disp [])))])
    [(.ret (.cst .non))]
    []),
   (.asg 5 (.bi .int [(.var 3)])),
   (.ret (.ife (.and [(.cmp .eq (.bi .str [(.var 5)]) (.var 3)), (.chain .le .le (.neg (.bin .pow (.cst (.int 10)) (.cst (.int 9)))) (.var 5) (.bin .pow (.cst (.int 10)) (.cst (.int 9))))]) (.tup [(.var 5)]) (.cst .non)))] = R
        have hb : D22.body = (D22.body.take 6) ++ R := by
          rw [← hR]
          rfl
        rw [hb]
        simp [D22, b22, start, e20, e21, srt, sInt, sText, sFlag, cmp_in_tup]
      rw [eq1]
      simp only [evSs_cons, evS_asg, evS_ife, a1, Res.bnd_ok, List.length_cons, List.length_nil, List.set_cons_succ, List.set_cons_zero, show decide (4 < 0 + 1 + 1 + 1 + 1 + 1 + 1 + 1 + 1) = true from rfl, grd_true, a2]
      have ech : change (.str x) sInt = (integerOf x).map .int := by
        unfold change
        simp [sInt, sText, sFlag]
      rw [ech]
      unfold integerOf
      cases hfo : figOk x with
      | false => simp [oneV]
      | true =>
        obtain ⟨n, e, hn⟩ := intOf_figs hfo
        simp [e, str_int h (small_1900 hn), p9]
        by_cases q1 : strI n = x <;> by_cases q2 : -1000000000 ≤ n <;> by_cases q3 : n ≤ 1000000000 <;> simp [q1, q2, q3, oneV]
    · simp [D22, b22, start, e20, srt, change, oneV, sInt, sText, sFlag, cmp_in_tup]
    · by_cases q1 : x = sFalse
      · subst q1
        have e21 : P.call (k + 1) 21 [.str [102, 97, 108, 115, 101]] h = .ok (.str [102, 97, 108, 115, 101]) h := e21
        have e20 : P.call (k + 1) 20 [.str [102, 97, 108, 115, 101]] h = _ := e20
        simp [D22, b22, start, e20, e21, srt, change, oneV, sInt, sText, sFlag, sTrue, sFalse, cmp_in_tup]
      · by_cases q2 : x = sTrue
        · subst q2
          have e21 : P.call (k + 1) 21 [.str [116, 114, 117, 101]] h = .ok (.str [116, 114, 117, 101]) h := e21
          have e20 : P.call (k + 1) 20 [.str [116, 114, 117, 101]] h = _ := e20
          simp [D22, b22, start, e20, e21, srt, change, oneV, sInt, sText, sFlag, sTrue, sFalse, cmp_in_tup]
        · have q1' : ¬ [102, 97, 108, 115, 101] = x := fun e => q1 e.symm
          have q2' : ¬ [116, 114, 117, 101] = x := fun e => q2 e.symm
          simp [D22, b22, start, e20, e21, srt, change, oneV, sInt, sText, sFlag, cmp_in_tup, q1, q2, q1', q2']
  | _ => cases hv
end
end Z
-- ZV3
set_option Elab.async false
set_option linter.all false
set_option maxRecDepth 100000
set_option maxHeartbeats 4000000
/-! Layer ZV, part 3: drawn values; conversions there and back. -/
namespace Z
open G
section
variable {k n : Nat} {h : AH}
theorem isTx_strI {i : Int} (hi : i.natAbs < 10000000000) : isTx (.str (strI i)) = true := by
  have h1 := digs_all (n := i.natAbs)
  have h2 : (digs i.natAbs).length ≤ 10 := (digs_len (by omega)).mpr hi
  have h3 : (digs i.natAbs).all okC = true := List.all_eq_true.mpr fun c hc => by
    have := List.all_eq_true.mp h1 c hc
    simp only [isDig, okC, Bool.and_eq_true, decide_eq_true_eq] at this ⊢
    omega
  by_cases h0 : i < 0
  · simp only [strI, if_pos h0, isTx, List.length_cons, List.all_cons, h3, Bool.and_true, Bool.and_eq_true, decide_eq_true_eq]
    exact ⟨by omega, by decide⟩
  · simp only [strI, if_neg h0, isTx, h3, Bool.and_true, decide_eq_true_eq]
    omega
theorem such_D {t : List Nat} {v : PV} (hv : such t v = true) : v.isD = true ∧ v.depth = 0 := by
  unfold such at hv
  cases v with
  | non => exact ⟨rfl, rfl⟩
  | bl _ => exact ⟨rfl, rfl⟩
  | int _ => exact ⟨rfl, rfl⟩
  | str _ => exact ⟨rfl, rfl⟩
  | _ =>
    split at hv
    · cases hv
    · split at hv <;> cases hv
theorem c15 (i : At n h) : Draws n h (P.call (k + 3) 15 [.ref n] h) (fun v => ∃ t, v = .str t ∧ kdOk t = true) := by
  rw [call_of d15]
  refine run_draw i rfl rfl (fun v ⟨t, e, _⟩ => by subst e; exact ⟨rfl, Nat.zero_le _⟩) ?_
  obtain ⟨v, h2, e2, s2, hm⟩ := of_ok (k := k) (xs := [.str [105, 110, 116], .str [116, 101, 120, 116], .str [102, 108, 97, 103]]) i (.inl rfl) (by simp) (by decide) (fun x hx => by
    simp only [List.mem_cons, List.not_mem_nil, or_false] at hx
    rcases hx with rfl | rfl | rfl <;> exact ⟨rfl, Nat.zero_le _⟩)
  refine ⟨v, h2, [], by simp [D15, b15, start, e2], s2, ?_⟩
  simp only [List.mem_cons, List.not_mem_nil, or_false] at hm
  rcases hm with rfl | rfl | rfl
  · exact ⟨_, rfl, by decide⟩
  · exact ⟨_, rfl, by decide⟩
  · exact ⟨_, rfl, by decide⟩
theorem c14 {t : List Nat} (i : At n h) (ht : kdOk t = true) : Draws n h (P.call (k + 3) 14 [.ref n, .str t] h) (fun v => such t v = true) := by
  rw [call_of d14]
  refine run_draw i rfl rfl (fun v hv => ⟨(such_D hv).1, by rw [(such_D hv).2]; omega⟩) ?_
  have ht' : t = sInt ∨ t = sText ∨ t = sFlag := by
    simp only [kdOk, Bool.or_eq_true, decide_eq_true_eq] at ht
    rcases ht with (q | q) | q
    · exact .inl q
    · exact .inr (.inl q)
    · exact .inr (.inr q)
  have p9 : ∀ h, binV h .pow (.int 10) (.int 9) = some (.int 1000000000) := fun h => (bin_pow (by decide) (by decide) (by decide)).trans rfl
  rcases ht' with rfl | rfl | rfl
  · obtain ⟨w, h1, e1, s1, j, rfl, j0, j1⟩ := pick_ok (k := k + 1) (size := 100) i (by omega) (by omega)
    obtain ⟨v, h2, e2, s2, hm⟩ := of_ok (k := k) (xs := [.int 0, .int 1, .int 2, .int 7, .int (-3), .int 1000000000, .int j]) (Step.at i s1) (.inl rfl) (by simp) (by simp) (fun x hx => by
      simp only [List.mem_cons, List.not_mem_nil, or_false] at hx
      rcases hx with rfl | rfl | rfl | rfl | rfl | rfl | rfl <;> exact ⟨rfl, Nat.zero_le _⟩)
    refine ⟨v, h2, [], by simp [D14, b14, start, sInt, e1, e2, p9], s1.trans s2, ?_⟩
    simp only [List.mem_cons, List.not_mem_nil, or_false] at hm
    rcases hm with rfl | rfl | rfl | rfl | rfl | rfl | rfl
    · decide
    · decide
    · decide
    · decide
    · decide
    · decide
    · simp [such, isIn]
      omega
  · obtain ⟨w, h1, e1, s1, j, rfl, j0, j1⟩ := pick_ok (k := k + 1) (size := 100) i (by omega) (by omega)
    have hj : j.natAbs < 10000000000 := by omega
    obtain ⟨v, h2, e2, s2, hm⟩ := of_ok (k := k) (xs := [.str [48], .str [49], .str [50], .str [55], .str [45, 51], .str [48, 55], .str [], .str [116, 114, 117, 101], .str [102, 97, 108, 115, 101], .str [114, 101, 120], .str [116, 111, 109], .str [45, 48], .str (strI j)]) (Step.at i s1) (.inl rfl) (by simp) (by simp) (fun x hx => by
      simp only [List.mem_cons, List.not_mem_nil, or_false] at hx
      rcases hx with rfl | rfl | rfl | rfl | rfl | rfl | rfl | rfl | rfl | rfl | rfl | rfl | rfl <;> exact ⟨rfl, Nat.zero_le _⟩)
    refine ⟨v, h2, [], by simp [D14, b14, start, sText, e1, e2, str_int _ (small_1900 hj)], s1.trans s2, ?_⟩
    simp only [List.mem_cons, List.not_mem_nil, or_false] at hm
    rcases hm with rfl | rfl | rfl | rfl | rfl | rfl | rfl | rfl | rfl | rfl | rfl | rfl | rfl
    · decide
    · decide
    · decide
    · decide
    · decide
    · decide
    · decide
    · decide
    · decide
    · decide
    · decide
    · decide
    · exact isTx_strI hj
  · obtain ⟨w, h1, e1, s1, j, rfl, j0, j1⟩ := pick_ok (k := k + 1) (size := 2) i (by omega) (by omega)
    exact ⟨.bl (j == 0), h1, [], by simp [D14, b14, start, sFlag, e1], s1, rfl⟩
theorem rngL_mem : ∀ {m : Nat} {a : Int} {x : PV}, x ∈ rngL a m → ∃ j : Int, x = .int j ∧ a ≤ j ∧ j < a + m
  | 0, _, _, hx => by cases hx
  | m + 1, a, x, hx => by
    rcases List.mem_cons.mp hx with e | hx
    · exact ⟨a, e, by omega, by omega⟩
    · obtain ⟨j, e, h1, h2⟩ := rngL_mem hx
      exact ⟨j, e, by omega, by omega⟩
theorem rngL_len : ∀ {m : Nat} {a : Int}, (rngL a m).length = m
  | 0, _ => rfl
  | m + 1, a => by
    show (rngL (a + 1) m).length + 1 = _
    rw [rngL_len]
theorem F2_mem {α β : Type} {R : α → β → Prop} : ∀ {as : List α} {bs : List β} {b : β}, F2 R as bs → b ∈ bs → ∃ a ∈ as, R a b
  | _, _, _, .nil, hb => by cases hb
  | _, _, _, .cons q r, hb => by
    rcases List.mem_cons.mp hb with e | hb
    · subst e
      exact ⟨_, List.mem_cons_self .., q⟩
    · obtain ⟨a, ha, hr⟩ := F2_mem r hb
      exact ⟨a, List.mem_cons_of_mem _ ha, hr⟩
theorem any_list {xs : List PV} (hx : ∀ x ∈ xs, x.isD = true ∧ x.depth ≤ 6) : isDs xs = true ∧ depths xs ≤ 6 := ⟨isDs_iff.mpr fun x h => (hx x h).1, depths_le.mpr fun x h => (hx x h).2⟩
/-- the leaves of a drawn value -/
def anyLeaf : List PV := [.int 0, .int 1, .int (-1), .int 1000000000, .bl true, .bl false, .non, .str [], .str [97], .str [112, 101, 116, 115], .str [105, 110, 116], .str [116, 101, 120, 116], .str [102, 108, 97, 103], .str [55], .str [48, 55], .str [116, 114, 117, 101], .str [65], .tup [], .lst [], .str [97, 100, 100], .str [100, 114, 111, 112], .tup [.str [97]], .int 1000000000000000000000000000000000000000, .str [97, 98, 99, 100, 101, 102, 103, 104, 105]]
theorem anyLeaf_ok : ∀ x ∈ anyLeaf, x.isD = true ∧ x.depth ≤ 1 := by
  intro x hx
  have : (anyLeaf.all fun x => x.isD && decide (x.depth ≤ 1)) = true := by decide
  have := List.all_eq_true.mp this x hx
  simpa using this
theorem c16 : ∀ (deep : Nat) (k : Nat) (h : AH), deep ≤ 5 → At n h → Draws n h (P.call (k + 3 + deep) 16 [.ref n, .int deep] h) (fun v => v.isD = true ∧ v.depth ≤ deep + 1) := by
  intro deep
  have p9 : ∀ h, binV h .pow (.int 10) (.int 9) = some (.int 1000000000) := fun h => (bin_pow (by decide) (by decide) (by decide)).trans rfl
  have p39 : ∀ h, binV h .pow (.int 10) (.int 39) = some (.int 1000000000000000000000000000000000000000) := fun h => (bin_pow (by decide) (by decide) (by decide)).trans rfl
  have add : ∀ (h : AH) (a b : List PV), a.length + b.length ≤ 100 → binV h .add (.lst a) (.lst b) = some (.lst (a ++ b)) := fun h a b l => add_lst h (by unfold zLine; omega)
  -- the leaves
  have leaf : ∀ (k deep : Nat) (h h1 : AH) (j : Int), At n h → Step n h h1 → (j < 6 ∨ deep = 0) → P.call (k + 2) 12 [.ref n, .int 9] h = .ok (.int j) h1 → ∃ v h' ext, evSs (P.ctx (P.call (k + 2))) D16.body (start D16 [.ref n, .int deep]) h = .ok (.ret v) (h' ++ ext) ∧ Step n h h' ∧ (v.isD = true ∧ v.depth ≤ deep + 1) := by
    intro k deep h h1 j i s1 hj e1
    obtain ⟨v, h2, e2, s2, hm⟩ := of_ok (k := k) (xs := anyLeaf) (Step.at i s1) (.inl rfl) (by simp [anyLeaf]) (by simp [anyLeaf]) (fun x hx => ⟨(anyLeaf_ok x hx).1, Nat.le_trans (anyLeaf_ok x hx).2 (by omega)⟩)
    have e2' : P.call (k + 2) 13 [.ref n, .lst ([.int 0, .int 1, .int (-1), .int 1000000000, .bl true, .bl false, .non, .str [], .str [97], .str [112, 101, 116, 115], .str [105, 110, 116], .str [116, 101, 120, 116], .str [102, 108, 97, 103], .str [55], .str [48, 55], .str [116, 114, 117, 101], .str [65], .tup [], .lst []] ++ [.str [97, 100, 100], .str [100, 114, 111, 112], .tup [.str [97]], .int 1000000000000000000000000000000000000000, .str [97, 98, 99, 100, 101, 102, 103, 104, 105]])] h1 = .ok v h2 := e2
    refine ⟨v, h2, [], ?_, s1.trans s2, (anyLeaf_ok v hm).1, Nat.le_trans (anyLeaf_ok v hm).2 (by omega)⟩
    rw [List.append_nil]
    simp only [List.cons_append, List.nil_append] at e2'
    by_cases h6 : j < 6
    · simp [D16, b16, start, e1, h6, p9, p39, add, e2']
    · have h0 : deep = 0 := hj.resolve_left h6
      subst h0
      simp [D16, b16, start, e1, h6, p9, p39, add]
      rw [e2']
      simp
  induction deep with
  | zero =>
    intro k h hd i
    rw [show k + 3 + 0 = (k + 2) + 1 from rfl, call_of d16]
    refine run_draw i rfl rfl (fun v hv => ⟨hv.1, by omega⟩) ?_
    obtain ⟨w, h1, e1, s1, j, rfl, j0, j1⟩ := pick_ok (k := k + 1) (size := 9) i (by omega) (by omega)
    exact leaf k 0 h h1 j i s1 (.inr rfl) e1
  | succ d ih =>
    intro k h hd i
    rw [show k + 3 + (d + 1) = (k + 3 + d) + 1 from rfl, call_of d16]
    refine run_draw i rfl rfl (fun v hv => ⟨hv.1, by omega⟩) ?_
    obtain ⟨w, h1, e1, s1, j, rfl, j0, j1⟩ := pick_ok (k := k + 2 + d) (size := 9) i (by omega) (by omega)
    have e1 : P.call (k + 3 + d) 12 [.ref n, .int 9] h = .ok (.int j) h1 := by
      rw [show k + 3 + d = k + 2 + d + 1 from by omega]
      exact e1
    by_cases h6 : j < 6
    · have := leaf (k + 1 + d) (d + 1) h h1 j i s1 (.inl h6) (by rw [show k + 1 + d + 2 = k + 3 + d from by omega]; exact e1)
      rw [show k + 1 + d + 2 = k + 3 + d from by omega] at this
      exact this
    · obtain ⟨w, h2, e2, s2, m, rfl, m0, m1⟩ := pick_ok (k := k + 2 + d) (size := 4) (Step.at i s1) (by omega) (by omega)
      have e2 : P.call (k + 3 + d) 12 [.ref n, .int 4] h1 = .ok (.int m) h2 := by
        rw [show k + 3 + d = k + 2 + d + 1 from by omega]
        exact e2
      obtain ⟨os, h3, e3, s3, f3⟩ := compL_draw (f := cbody (P.ctx (P.call (k + 3 + d))) [5] (.call 16 [(.var 0), (.bin .sub (.var 1) (.cst (.int 1)))]) (.name 5) [] [some (.ref n), some (.int ((d + 1 : Nat) : Int)), some (.int j), none, none, none])
        (G := fun _ o => ∃ v, o = some v ∧ v.isD = true ∧ v.depth ≤ d + 1) (xs := rngL 0 m.toNat) (Step.at (Step.at i s1) s2) (fun x hx h' i' _ => by
          obtain ⟨v, h4, e4, s4, g4⟩ := ih k h' (by omega) i'
          refine ⟨some v, h4, ?_, s4, v, rfl, g4⟩
          have ed : ((d + 1 : Nat) : Int) - 1 = (d : Int) := by omega
          simp only [Int.natCast_add, Int.natCast_one] at ed
          simp [cbody, ocond, ed, e4])
      have hos : ∀ v ∈ os.filterMap id, v.isD = true ∧ v.depth ≤ d + 1 := fun v hv => by
        obtain ⟨o, ho, e⟩ := List.mem_filterMap.mp hv
        obtain ⟨_, _, v', e', g⟩ := F2_mem f3 ho
        have : v' = v := by
          rw [e'] at e
          exact Option.some.inj e
        rw [← this]
        exact g
      have hlen : (os.filterMap id).length ≤ 4 := by
        have h1 := List.length_filterMap_le id os
        have h2 := f3.length
        rw [rngL_len] at h2
        omega
      have hD : isDs (os.filterMap id) = true := isDs_iff.mpr fun v hv => (hos v hv).1
      have hdp : depths (os.filterMap id) ≤ d + 1 := depths_le.mpr fun v hv => (hos v hv).2
      have hz : (os.filterMap id).length ≤ zLine := by unfold zLine; omega
      have hj : j - 6 = 0 ∨ j - 6 = 1 ∨ j - 6 = 2 := by omega
      have d0 : ((d : Int) + 1 == 0) = false := by
        simp
        omega
      have sm : small m = true := small_of (by omega) (by omega)
      have sm2 : m.natAbs < 4611686018427387904 := by omega
      have sm3 : m ≤ 1000000 := by omega
      have sm0 : small 0 = true := by decide
      have e3' : compL none (cbody (P.ctx (P.call (k + 3 + d))) [5] (.call 16 [(.var 0), (.bin .sub (.var 1) (.cst (.int 1)))]) (.name 5) [] [some (.ref n), some (.int ((d : Int) + 1)), some (.int j), none, none, none]) (rngL 0 m.toNat) h2 = .ok (os.filterMap id) h3 := by
        simpa using e3
      rcases hj with q | q | q
      · refine ⟨.lst (os.filterMap id), h3, [], ?_, (s1.trans s2).trans s3, hD, by show depths _ + 1 ≤ _; omega⟩
        simp [D16, b16, start, e1, h6, d0, e2, sm, sm2, sm3, sm0, e3', hz, q]
      · refine ⟨.tup (os.filterMap id), h3, [], ?_, (s1.trans s2).trans s3, hD, by show depths _ + 1 ≤ _; omega⟩
        simp [D16, b16, start, e1, h6, d0, e2, sm, sm2, sm3, sm0, e3', hz, q]
      · refine ⟨.tup (os.filterMap id), h3, [], ?_, (s1.trans s2).trans s3, hD, by show depths _ + 1 ≤ _; omega⟩
        simp [D16, b16, start, e1, h6, d0, e2, sm, sm2, sm3, sm0, e3', hz, q]
end
end Z
-- ZV4
set_option Elab.async false
set_option linter.all false
set_option maxRecDepth 100000
set_option maxHeartbeats 4000000
/-! Layer ZV, part 4: there and back. -/
namespace Z
open G
theorem kd3 {t : List Nat} (ht : kdOk t = true) : t = sInt ∨ t = sText ∨ t = sFlag := by
  simp only [kdOk, Bool.or_eq_true, decide_eq_true_eq] at ht
  rcases ht with (q | q) | q
  · exact .inl q
  · exact .inr (.inl q)
  · exact .inr (.inr q)
theorem figOk_strI {i : Int} (hi : i.natAbs < 10000000000) : figOk (strI i) = true := by
  have h1 := digs_all (n := i.natAbs)
  have h2 : (digs i.natAbs).length ≤ 10 := (digs_len (by omega)).mpr hi
  have h3 := digs_ne (n := i.natAbs)
  unfold figOk figs strI
  by_cases h0 : i < 0
  · rw [if_pos h0]
    simp [h1, h2, h3]
  · rw [if_neg h0]
    have : ¬ (digs i.natAbs).take 1 = [45] := fun e => by
      obtain ⟨r, e⟩ := take1 e
      rw [e, List.all_cons, Bool.and_eq_true] at h1
      exact absurd h1.1 (by decide)
    rw [if_neg this]
    simp [h1, h2, h3]
theorem integerOf_strI {i : Int} (h1 : -1000000000 ≤ i) (h2 : i ≤ 1000000000) : integerOf (strI i) = some i := by
  have hi : i.natAbs < 10000000000 := by omega
  unfold integerOf
  rw [figOk_strI hi, intOf_strI hi]
  simp [h1, h2]
theorem integerOf_some {x : List Nat} {n : Int} (h : integerOf x = some n) : strI n = x ∧ -1000000000 ≤ n ∧ n ≤ 1000000000 := by
  unfold integerOf at h
  split at h
  · split at h
    · split at h
      · rename_i q
        cases h
        exact q
      · cases h
    · cases h
  · cases h
theorem such_int {i : Int} : such sInt (.int i) = (decide (-1000000000 ≤ i) && decide (i ≤ 1000000000)) := by simp [such, isIn]
theorem such_of {t : List Nat} {v : PV} (ht : kdOk t = true) (hs : such t v = true) : (∃ i, v = .int i ∧ t = sInt ∧ -1000000000 ≤ i ∧ i ≤ 1000000000) ∨ (∃ x, v = .str x ∧ t = sText ∧ isTx (.str x) = true) ∨ ∃ b, v = .bl b ∧ t = sFlag := by
  rcases kd3 ht with rfl | rfl | rfl
  · left
    cases v <;> simp [such, isIn] at hs
    exact ⟨_, rfl, rfl, hs.1, hs.2⟩
  · right
    left
    cases v with
    | str x =>
      refine ⟨x, rfl, rfl, ?_⟩
      have : such sText (.str x) = isTx (.str x) := by simp [such, sInt, sText]
      rw [← this]
      exact hs
    | _ => simp [such, sInt, sText, isTx] at hs
  · right
    right
    cases v <;> simp [such, sInt, sText, sFlag, isBl] at hs
    exact ⟨_, rfl, rfl⟩
theorem valid_of {t : List Nat} {v : PV} (ht : kdOk t = true) (hs : such t v = true) : valid v = true := by
  rcases kd3 ht with rfl | rfl | rfl
  · simp [valid, hs]
  · simp [valid, hs]
  · simp [valid, hs]
theorem back {t t0 : List Nat} {v r : PV} (h0 : kdOk t0 = true) (hs : such t0 v = true) (ht : kdOk t = true) (hc : change v t = some r) : such t r = true ∧ change r t0 = some v := by
  rcases such_of h0 hs with ⟨i, rfl, rfl, i1, i2⟩ | ⟨x, rfl, rfl, hx⟩ | ⟨b, rfl, rfl⟩
  · rcases kd3 ht with rfl | rfl | rfl
    · simp [change] at hc
      subst hc
      exact ⟨hs, by simp [change]⟩
    · simp [change, sInt, sText] at hc
      subst hc
      have e : such sText (.str (strI i)) = isTx (.str (strI i)) := by simp [such, sInt, sText]
      refine ⟨by rw [e]; exact isTx_strI (by omega), ?_⟩
      have : change (.str (strI i)) sInt = (integerOf (strI i)).map .int := by simp [change, sInt, sText, sFlag]
      rw [this, integerOf_strI i1 i2]
      rfl
    · simp [change, sInt, sText, sFlag] at hc
      obtain ⟨q, rfl⟩ := hc
      refine ⟨by simp [such, sInt, sText, sFlag, isBl], ?_⟩
      rcases q with rfl | rfl <;> simp [change, sInt, sFlag, b2i]
  · rcases kd3 ht with rfl | rfl | rfl
    · have e : change (.str x) sInt = (integerOf x).map .int := by simp [change, sInt, sText, sFlag]
      rw [e] at hc
      obtain ⟨n, hn, rfl⟩ := Option.map_eq_some_iff.mp hc
      obtain ⟨n1, n2, n3⟩ := integerOf_some hn
      refine ⟨by rw [such_int]; simp [n2, n3], ?_⟩
      simp [change, sInt, sText, n1]
    · simp [change] at hc
      subst hc
      exact ⟨hs, by simp [change]⟩
    · simp [change, sText, sFlag] at hc
      obtain ⟨q, rfl⟩ := hc
      refine ⟨by simp [such, sInt, sText, sFlag, isBl], ?_⟩
      rcases q with rfl | rfl <;> simp [change, sInt, sText, sFlag, sTrue, sFalse]
  · rcases kd3 ht with rfl | rfl | rfl
    · simp [change, sInt, sFlag] at hc
      subst hc
      refine ⟨by cases b <;> decide, ?_⟩
      cases b <;> simp [change, sInt, sText, sFlag, b2i]
    · simp [change, sInt, sText, sFlag] at hc
      subst hc
      refine ⟨by cases b <;> decide, ?_⟩
      cases b <;> simp [change, sInt, sText, sFlag, sTrue, sFalse]
    · simp [change] at hc
      subst hc
      exact ⟨hs, by simp [change]⟩
theorem conv_ok {v : PV} {t : List Nat} {h : AH} (hv : v = .non ∨ valid v = true) (ht : kdOk t = true) : conv v (.str t) h = (match change v t with
      | some r => .ok r h
      | none => .exc ⟨2, none⟩ h) := by
  unfold conv
  rw [if_neg (fun ⟨a, b⟩ => by
    rcases hv with q | q
    · exact a q
    · rw [q] at b
      cases b)]
  show (if kdOk t = true then _ else _) = _
  rw [if_pos ht]
  all_goals rfl
theorem conv_bad {v kd : PV} {h : AH} (hv : v ≠ .non ∧ valid v = false) : conv v kd h = .exc ⟨0, none⟩ h := by
  unfold conv
  rw [if_pos hv]
theorem conv_kd {v kd : PV} {h : AH} (hv : v = .non ∨ valid v = true) (hk : isKd kd = false) : conv v kd h = .exc ⟨1, none⟩ h := by
  unfold conv
  rw [if_neg (fun ⟨a, b⟩ => by
    rcases hv with q | q
    · exact a q
    · rw [q] at b
      cases b)]
  cases kd with
  | str t =>
    rw [kdOk_isKd] at hk
    simp [hk]
  | _ => rfl
end Z
-- L_k01
set_option Elab.async false
set_option linter.all false
set_option maxRecDepth 100000
set_option maxHeartbeats 8000000
/-! Law k01. -/
namespace G
open Z
abbrev C1 : Ctx := P.ctx (P.call 19)
def w0 : List Nat := [118, 97, 108, 117, 101, 32, 98, 97, 115, 101]
def w1 : List Nat := [107, 105, 110, 100, 32, 98, 97, 115, 101]
def w2 : List Nat := [99, 111, 110, 118, 101, 114, 116, 32, 98, 97, 115, 101]
theorem word0 : P.word 0 = some w0 := rfl
theorem word1 : P.word 1 = some w1 := rfl
theorem word2 : P.word 2 = some w2 := rfl
def bodyK : List S :=
    [(.ife (.not (.call 19 [(.call 6 [(.var 6), (.var 4)]), (.cmp .isin (.var 6) (.var 5))]))
    [(.ret (.cst (.bl false)))]
    []), (.asg 8 (.tup [(.cst (.str [101, 114, 114, 111, 114])), (.cst (.str [118, 97, 108, 117, 101, 32, 98, 97, 115, 101])), (.cst .non)])), (.ife (.or [(.cmp .is (.var 4) (.cst .non)), (.cmp .ne (.var 5) (.frz (.disp [])))])
    [(.asg 10 (.call 22 [(.var 4), (.var 6)])), (.asg 8 (.ife (.cmp .is (.var 10) (.cst .non)) (.tup [(.cst (.str [101, 114, 114, 111, 114])), (.cst (.str [99, 111, 110, 118, 101, 114, 116, 32, 98, 97, 115, 101])), (.cst .non)]) (.tup [(.cst (.str [118, 97, 108, 117, 101])), (.sub (.var 10) (.cst (.int 0)))])))]
    []), (.asg 9 (.lam (.call 10 [(.var 4), (.var 6)]))), (.ife (.or [(.cmp .ne (.var 9) (.var 8)), (.and [(.cmp .eq (.sub (.var 9) (.cst (.int 0))) (.cst (.str [118, 97, 108, 117, 101]))), (.cmp .ne (.call 20 [(.sub (.var 9) (.cst (.int 1)))]) (.call 20 [(.sub (.var 8) (.cst (.int 1)))]))])])
    [(.ret (.cst (.bl false)))]
    []), (.ife (.and [(.cmp .eq (.sub (.var 9) (.cst (.int 0))) (.cst (.str [118, 97, 108, 117, 101]))), (.cmp .ne (.var 5) (.frz (.disp []))), (.cmp .ne (.call 10 [(.sub (.var 9) (.cst (.int 1))), (.sub (.var 5) (.cst (.int 0)))]) (.var 4))])
    [(.ret (.cst (.bl false)))]
    [])]
def bodyO : List S :=
    [(.ife (.not (.lamR (.call 6 [(.var 7), (.var 4)]) (.cst (.str [107, 105, 110, 100]))))
    [(.ret (.cst (.bl false)))]
    []), (.ife (.not (.lamR (.call 10 [(.var 4), (.var 7)]) (.ife (.or [(.cmp .is (.var 4) (.cst .non)), (.cmp .ne (.var 5) (.frz (.disp [])))]) (.cst (.str [107, 105, 110, 100])) (.cst (.str [118, 97, 108, 117, 101])))))
    [(.ret (.cst (.bl false)))]
    [])]
def kinds : List E := [(.cst (.str [105, 110, 116])), (.cst (.str [116, 101, 120, 116])), (.cst (.str [102, 108, 97, 103]))]
def bodyV : List S := [(.asg 5 (.frz (.comp [6] (.var 6) (.name 6) (.val (.frz (.disp kinds))) [(.call 18 [(.var 6), (.var 4)])]))), (.for (.name 6) (.val (.frz (.disp kinds))) bodyK), (.for (.name 7) (.val (.frz (.disp [(.cst .non), (.cst (.str [])), (.cst (.str [105, 110, 116, 101, 103, 101, 114])), (.cst (.int 1)), (.tup [(.cst (.str [105, 110, 116]))]), (.cst (.str [73, 110, 116]))]))) bodyO)]
def bodyA : List S := [(.asg 2 (.call 11 [(.var 0), (.var 1)])), (.asg 3 (.frz (.disp [(.cst (.int 0)), (.cst (.int 1)), (.cst (.int 2)), (.neg (.cst (.int 1))), (.bin .pow (.cst (.int 10)) (.cst (.int 9))), (.bin .add (.bin .pow (.cst (.int 10)) (.cst (.int 9))) (.cst (.int 1))), (.bin .sub (.neg (.bin .pow (.cst (.int 10)) (.cst (.int 9)))) (.cst (.int 1))), (.cst (.str [48])), (.cst (.str [49])), (.cst (.str [48, 49])), (.cst (.str [45, 48])), (.cst (.str [45, 55])), (.cst (.str [43, 55])), (.cst (.str [32, 55])), (.cst (.str [55, 32])), (.cst (.str [49, 48, 48, 48, 48, 48, 48, 48, 48, 49]))]))), (.asg 3 (.bin .add (.var 3) (.frz (.disp [(.cst (.str [116, 114, 117, 101])), (.cst (.str [102, 97, 108, 115, 101])), (.cst (.str [84, 114, 117, 101])), (.cst (.str [])), (.bin .mul (.cst (.str [97])) (.cst (.int 30))), (.bin .mul (.cst (.str [97])) (.cst (.int 31))), (.bin .mul (.cst (.str [49])) (.cst (.int 30))), (.cst (.str [45, 49, 48, 48, 48, 48, 48, 48, 48, 48, 48])), (.cst (.str [45])), (.cst (.str [45, 45, 49])), (.cst (.bl true)), (.cst (.bl false)), (.cst .non)])))), (.asg 3 (.bin .add (.bin .add (.var 3) (.frz (.comp [11] (.call 14 [(.var 2), (.call 15 [(.var 2)])]) (.name 11) (.rng (.cst (.int 0)) (.cst (.int 4))) []))) (.frz (.disp [(.cst (.int 1000)), (.tup [(.cst (.int 1))]), (.frz (.disp [(.cst (.int 1))])), (.cst (.str [126, 32, 33])), (.cst (.str [49, 46, 48]))]))))]
def lastS : S := (.ret (.and [(.cmp .eq (.call 10 [(.cst (.str [45, 55])), (.cst (.str [105, 110, 116]))]) (.neg (.cst (.int 7)))), (.cmp .is (.call 10 [(.cst (.int 1)), (.cst (.str [102, 108, 97, 103]))]) (.cst (.bl true))), (.cmp .eq (.call 10 [(.cst (.bl false)), (.cst (.str [105, 110, 116]))]) (.cst (.int 0)))]))
theorem b23_eq : b23 = [(.for (.name 1) (.rng (.cst (.int 0)) (.bi .max [(.cst (.int 1)), (.bi .min [(.cst (.int 8)), (.bi .len [(.var 0)])])])) (bodyA ++ [(.for (.name 4) (.val (.bin .add (.var 3) (.frz (.disp [(.call 16 [(.var 2), (.cst (.int 2))])])))) bodyV)])), lastS] := rfl
/-- what is known of a value and its sorts -/
inductive Kn (v : PV) : List PV → Prop where
  | bad : v ≠ .non → valid v = false → Kn v []
  | non : v = .non → Kn v []
  | good (t0 : List Nat) : kdOk t0 = true → such t0 v = true → Kn v [.str t0]
theorem such_bad {v : PV} {t : List Nat} (ht : kdOk t = true) (hv : valid v = false) : such t v = false := by
  cases q : such t v with
  | false => rfl
  | true => rw [valid_of ht q] at hv; cases hv
theorem such_one {v : PV} {t t0 : List Nat} (h0 : kdOk t0 = true) (hs : such t0 v = true) (ht : kdOk t = true) : such t v = decide (t0 = t) := by
  rcases such_of h0 hs with ⟨i, rfl, rfl, i1, i2⟩ | ⟨x, rfl, rfl, hx⟩ | ⟨b, rfl, rfl⟩
  · rcases kd3 ht with rfl | rfl | rfl
    · rw [hs]
      decide
    · simp [such, sInt, sText, isTx]
    · simp [such, sInt, sText, sFlag, isBl]
  · rcases kd3 ht with rfl | rfl | rfl
    · simp [such, sInt, sText, isIn]
    · rw [hs]
      decide
    · simp [such, sInt, sText, sFlag, isBl]
  · rcases kd3 ht with rfl | rfl | rfl
    · simp [such, sInt, sFlag, isIn]
    · simp [such, sInt, sText, sFlag, isTx]
    · rw [hs]
      decide
theorem Kn.any {v : PV} {ss : List PV} {t : List Nat} (K : Kn v ss) (ht : kdOk t = true) : (ss.any fun z => eqP z (.str t)) = such t v := by
  cases K with
  | bad h1 h2 => rw [such_bad ht h2]; rfl
  | non h => subst h; rcases kd3 ht with rfl | rfl | rfl <;> decide
  | good t0 h0 hs =>
    rw [such_one h0 hs ht]
    simp
theorem Kn.D {v : PV} {ss : List PV} (K : Kn v ss) : isDs ss = true ∧ depths ss = 0 := by
  cases K <;> simp
theorem sTrue_isKd {t : List Nat} (ht : kdOk t = true) : isKd (.str t) = true := by rw [kdOk_isKd]; exact ht
theorem chg_r {v r : PV} {t : List Nat} (e : change v t = some r) : r.isD = true ∧ r.depth = 0 := by
  have h := chg_D (v := v) (kd := t)
  rw [e] at h
  simp [chgV] at h
  exact h
theorem kind_ok {v : PV} {ss : List PV} {t : List Nat} {h : AH} (hv : v.isD = true) (K : Kn v ss) (ht : kdOk t = true) (x0 x1 x2 x3 x7 x8 x9 x10 x11 : Option PV) :
    ∃ a8 a9 a10, evSs C1 bodyK [x0, x1, x2, x3, some v, some (.lst ss), some (.str t), x7, x8, x9, x10, x11] h = .ok (.next [x0, x1, x2, x3, some v, some (.lst ss), some (.str t), x7, a8, a9, a10, x11]) h := by
  have e6 : P.call 19 6 [.str t, v] h = .ok (.bl (such t v)) h := by
    have := c6 (k := 16) (h := h) (v := v) (kd := .str t) hv rfl
    simp only [sTrue_isKd ht, if_true] at this
    exact this
  have e19 : ∀ a b, P.call 19 19 [.bl a, .bl b] h = .ok (.bl (a == b)) h := fun a b => c19 (k := 18)
  have e10 : P.call 19 10 [v, .str t] h = conv v (.str t) h := c10 (k := 15) hv rfl
  have ein : cmpV h .isin (.str t) (.lst ss) = some (such t v) := by
    rw [cmp_in_lst _ rfl K.D.1 (by simp), K.any ht]
  have ee : cmpV h .ne (.lst ss) (.lst []) = some (!eqPs ss []) := by
    rw [cmp_ne h (x := .lst ss) (y := .lst []) K.D.1 rfl (by simp)]
    rfl
  have d1 : evS C1 (.ife (.not (.call 19 [(.call 6 [(.var 6), (.var 4)]), (.cmp .isin (.var 6) (.var 5))])) [(.ret (.cst (.bl false)))] []) [x0, x1, x2, x3, some v, some (.lst ss), some (.str t), x7, x8, x9, x10, x11] h = .ok (.next [x0, x1, x2, x3, some v, some (.lst ss), some (.str t), x7, x8, x9, x10, x11]) h := by
    simp [e6, ein, e19]
  unfold bodyK
  rw [evSs_cons, d1]
  simp only [Res.bnd_ok]
  cases K with
  | bad h1 h2 =>
    rw [conv_bad ⟨h1, h2⟩] at e10
    have eis : cmpV h .is v .non = some false := by
      cases v <;> first | (cases hv; done) | (exact absurd rfl h1) | simp
    refine ⟨some (.tup [.str sError, .str w0, .non]), some (.tup [.str sError, .str w0, .non]), x10, ?_⟩
    simp [eis, ee, e10, outc, word0, w0, sError, cmp_ne, cmp_eq]
  | non h1 =>
    subst h1
    have e22 : P.call 19 22 [.non, .str t] h = .ok (oneV (change .non t)) h := c22 (k := 17) rfl ht
    have e20 : P.call 19 20 [.non] h = .ok (.str (srt .non)) h := c20 (k := 18) rfl
    rw [conv_ok (.inl rfl) ht] at e10
    refine ⟨some (.tup [.str sValue, .non]), some (.tup [.str sValue, .non]), some (.tup [.non]), ?_⟩
    simp only [change] at e10
    simp [ee, e22, e10, e20, change, oneV, outc, sValue, cmp_ne, cmp_eq]
  | good t0 h0 hs =>
    have vP := valid_P (valid_of h0 hs)
    have vD := such_D hs
    have hn : v ≠ .non := fun e => by
      subst e
      rcases kd3 h0 with rfl | rfl | rfl <;> cases hs
    have eis : cmpV h .is v .non = some false := by
      cases v <;> first | (cases hv; done) | (exact absurd rfl hn) | simp
    have e22 : P.call 19 22 [v, .str t] h = .ok (oneV (change v t)) h := c22 (k := 17) vP ht
    rw [conv_ok (.inr (valid_of h0 hs)) ht] at e10
    cases ec : change v t with
    | none =>
      rw [ec] at e10 e22
      refine ⟨some (.tup [.str sError, .str w2, .non]), some (.tup [.str sError, .str w2, .non]), some .non, ?_⟩
      simp [eis, ee, e22, e10, oneV, outc, word2, w2, sError, cmp_ne, cmp_eq]
    | some r =>
      rw [ec] at e10 e22
      obtain ⟨b1, b2⟩ := back h0 hs ht ec
      have rD := chg_r ec
      have e20 : P.call 19 20 [r] h = .ok (.str (srt r)) h := c20 (k := 18) rD.1
      have e10b : P.call 19 10 [r, .str t0] h = .ok v h := by
        have := c10 (k := 15) (h := h) (v := r) (kd := .str t0) rD.1 rfl
        rw [conv_ok (.inr (valid_of ht b1)) h0, b2] at this
        exact this
      refine ⟨some (.tup [.str sValue, r]), some (.tup [.str sValue, r]), some (.tup [r]), ?_⟩
      simp [eis, ee, e22, e10, e20, e10b, oneV, outc, sValue, cmp_ne, cmp_eq, rD.1, rD.2, vD.1, vD.2, eqP_refl]
theorem odd_ok {v o : PV} {ss : List PV} {h : AH} (hv : v.isD = true) (K : Kn v ss) (ho : o.isD = true) (ho2 : isKd o = false) (x0 x1 x2 x3 x6 x8 x9 x10 x11 : Option PV) :
    evSs C1 bodyO [x0, x1, x2, x3, some v, some (.lst ss), x6, some o, x8, x9, x10, x11] h = .ok (.next [x0, x1, x2, x3, some v, some (.lst ss), x6, some o, x8, x9, x10, x11]) h := by
  have e6 : P.call 19 6 [o, v] h = .exc ⟨1, none⟩ h := by
    have := c6 (k := 16) (h := h) (v := v) (kd := o) hv ho
    cases o with
    | str t => simpa [ho2] using this
    | _ => exact this
  have e10 : P.call 19 10 [v, o] h = conv v o h := c10 (k := 15) hv ho
  have ee : cmpV h .ne (.lst ss) (.lst []) = some (!eqPs ss []) := by
    rw [cmp_ne h (x := .lst ss) (y := .lst []) K.D.1 rfl (by simp)]
    rfl
  unfold bodyO
  cases K with
  | bad h1 h2 =>
    rw [conv_bad ⟨h1, h2⟩] at e10
    have eis : cmpV h .is v .non = some false := by
      cases v <;> first | (cases hv; done) | (exact absurd rfl h1) | simp
    simp [eis, ee, e6, e10, outc, word0, word1, w0, w1, sError, sBase, cmp_eq]
  | non h1 =>
    subst h1
    rw [conv_kd (.inl rfl) ho2] at e10
    simp [ee, e6, e10, outc, word0, word1, w0, w1, sError, sBase, cmp_eq]
  | good t0 h0 hs =>
    have hn : v ≠ .non := fun e => by
      subst e
      rcases kd3 h0 with rfl | rfl | rfl <;> cases hs
    have eis : cmpV h .is v .non = some false := by
      cases v <;> first | (cases hv; done) | (exact absurd rfl hn) | simp
    rw [conv_kd (.inr (valid_of h0 hs)) ho2] at e10
    simp [eis, ee, e6, e10, outc, word0, word1, w0, w1, sError, sBase, cmp_eq]
/-- the sorts of a value -/
def sorts (v : PV) : List PV := [PV.str [105, 110, 116], .str [116, 101, 120, 116], .str [102, 108, 97, 103]].filterMap fun y => match y with
  | .str t => if such t v = true then some (.str t) else none
  | _ => none
theorem sorts_kn {v : PV} (hv : v.isD = true) : Kn v (sorts v) := by
  by_cases h0 : v = .non
  · subst h0
    exact .non rfl
  · cases q : valid v with
    | false =>
      have e : sorts v = [] := by
        unfold sorts
        have h1 := such_bad (v := v) (t := sInt) (by decide) q
        have h2 := such_bad (v := v) (t := sText) (by decide) q
        have h3 := such_bad (v := v) (t := sFlag) (by decide) q
        unfold sInt at h1
        unfold sText at h2
        unfold sFlag at h3
        simp [h1, h2, h3]
      rw [e]
      exact .bad h0 q
    | true =>
      have : ∃ t0, kdOk t0 = true ∧ such t0 v = true := by
        unfold valid at q
        simp only [Bool.or_eq_true] at q
        rcases q with (q | q) | q
        · exact ⟨sInt, by decide, q⟩
        · exact ⟨sText, by decide, q⟩
        · exact ⟨sFlag, by decide, q⟩
      obtain ⟨t0, k0, hs⟩ := this
      have e : sorts v = [.str t0] := by
        unfold sorts
        have h1 := such_one (t := sInt) k0 hs (by decide)
        have h2 := such_one (t := sText) k0 hs (by decide)
        have h3 := such_one (t := sFlag) k0 hs (by decide)
        rcases kd3 k0 with rfl | rfl | rfl
        · simp [sInt, sText, sFlag] at h1 h2 h3
          simp [h1, h2, h3, sInt]
        · simp [sInt, sText, sFlag] at h1 h2 h3
          simp [h1, h2, h3, sText]
        · simp [sInt, sText, sFlag] at h1 h2 h3
          simp [h1, h2, h3, sFlag]
      rw [e]
      exact .good t0 k0 hs
/-- one value -/
theorem value_ok {v : PV} {h : AH} (hv : v.isD = true) (x0 x1 x2 x3 x5 x6 x7 x8 x9 x10 x11 : Option PV) :
    ∃ a5 a6 a7 a8 a9 a10, evSs C1 bodyV [x0, x1, x2, x3, some v, x5, x6, x7, x8, x9, x10, x11] h = .ok (.next [x0, x1, x2, x3, some v, a5, a6, a7, a8, a9, a10, x11]) h := by
  have K := sorts_kn hv
  have hc : compL none (cbody C1 [6] (.var 6) (.name 6) [(.call 18 [(.var 6), (.var 4)])] [x0, x1, x2, x3, some v, x5, x6, x7, x8, x9, x10, x11]) [.str [105, 110, 116], .str [116, 101, 120, 116], .str [102, 108, 97, 103]] h = .ok (sorts v) h := by
    refine compL_fm rfl fun y hy => ?_
    have e18 : ∀ t, kdOk t = true → P.call 19 18 [.str t, v] h = .ok (.bl (such t v)) h := fun t ht => c18 (k := 17) hv ht
    simp only [List.mem_cons, List.not_mem_nil, or_false] at hy
    rcases hy with rfl | rfl | rfl
    · have := e18 [105, 110, 116] (by decide)
      cases q : such [105, 110, 116] v <;> rw [q] at this <;> simp [cbody, ocond, this, q]
    · have := e18 [116, 101, 120, 116] (by decide)
      cases q : such [116, 101, 120, 116] v <;> rw [q] at this <;> simp [cbody, ocond, this, q]
    · have := e18 [102, 108, 97, 103] (by decide)
      cases q : such [102, 108, 97, 103] v <;> rw [q] at this <;> simp [cbody, ocond, this, q]
  have hl : (sorts v).length ≤ zLine := Nat.le_trans (List.length_filterMap_le ..) (by decide)
  have f1 : ∃ a6 a8 a9 a10, forL none (fbody C1 (.name 6) bodyK) [.str [105, 110, 116], .str [116, 101, 120, 116], .str [102, 108, 97, 103]] [x0, x1, x2, x3, some v, some (.lst (sorts v)), x6, x7, x8, x9, x10, x11] h = .ok (.next [x0, x1, x2, x3, some v, some (.lst (sorts v)), a6, x7, a8, a9, a10, x11]) h := by
    refine forL_rule (fun xs ρ h' => h' = h ∧ (∀ x ∈ xs, ∃ t, x = .str t ∧ kdOk t = true) ∧ ∃ a6 a8 a9 a10, ρ = [x0, x1, x2, x3, some v, some (.lst (sorts v)), a6, x7, a8, a9, a10, x11]) (fun r => ∃ a6 a8 a9 a10, r = .ok (.next [x0, x1, x2, x3, some v, some (.lst (sorts v)), a6, x7, a8, a9, a10, x11]) h) (fun _ _ _ _ => rfl) (fun ρ h' ⟨e, _, a6, a8, a9, a10, e2⟩ => ⟨a6, a8, a9, a10, by rw [e, e2]⟩) (fun x r ρ h' ⟨e, hx, a6, a8, a9, a10, e2⟩ => ?_) _ _ h ⟨rfl, ?_, x6, x8, x9, x10, rfl⟩
    · subst e e2
      obtain ⟨t, rfl, ht⟩ := hx x (List.mem_cons_self ..)
      obtain ⟨b8, b9, b10, e⟩ := kind_ok (h := h') hv K ht x0 x1 x2 x3 x7 a8 a9 a10 x11
      exact .inl ⟨_, h', by simp only [fbody, setT_name, List.length_cons, List.length_nil, show decide (6 < 0 + 1 + 1 + 1 + 1 + 1 + 1 + 1 + 1 + 1 + 1 + 1 + 1) = true from rfl, ocond_true, List.set_cons_succ, List.set_cons_zero]; exact e, rfl, fun y hy => hx y (List.mem_cons_of_mem _ hy), some (.str t), b8, b9, b10, rfl⟩
    · intro y hy
      simp only [List.mem_cons, List.not_mem_nil, or_false] at hy
      rcases hy with rfl | rfl | rfl
      · exact ⟨_, rfl, by decide⟩
      · exact ⟨_, rfl, by decide⟩
      · exact ⟨_, rfl, by decide⟩
  obtain ⟨a6, a8, a9, a10, f1⟩ := f1
  have f2 : ∃ a7, forL none (fbody C1 (.name 7) bodyO) [.non, .str [], .str [105, 110, 116, 101, 103, 101, 114], .int 1, .tup [.str [105, 110, 116]], .str [73, 110, 116]] [x0, x1, x2, x3, some v, some (.lst (sorts v)), a6, x7, a8, a9, a10, x11] h = .ok (.next [x0, x1, x2, x3, some v, some (.lst (sorts v)), a6, a7, a8, a9, a10, x11]) h := by
    refine forL_rule (fun xs ρ h' => h' = h ∧ (∀ x ∈ xs, x.isD = true ∧ isKd x = false) ∧ ∃ a7, ρ = [x0, x1, x2, x3, some v, some (.lst (sorts v)), a6, a7, a8, a9, a10, x11]) (fun r => ∃ a7, r = .ok (.next [x0, x1, x2, x3, some v, some (.lst (sorts v)), a6, a7, a8, a9, a10, x11]) h) (fun _ _ _ _ => rfl) (fun ρ h' ⟨e, _, a7, e2⟩ => ⟨a7, by rw [e, e2]⟩) (fun x r ρ h' ⟨e, hx, a7, e2⟩ => ?_) _ _ h ⟨rfl, ?_, x7, rfl⟩
    · subst e e2
      obtain ⟨h1, h2⟩ := hx x (List.mem_cons_self ..)
      have e := odd_ok (h := h') hv K h1 h2 x0 x1 x2 x3 a6 a8 a9 a10 x11
      exact .inl ⟨_, h', by simp only [fbody, setT_name, List.length_cons, List.length_nil, show decide (7 < 0 + 1 + 1 + 1 + 1 + 1 + 1 + 1 + 1 + 1 + 1 + 1 + 1) = true from rfl, ocond_true, List.set_cons_succ, List.set_cons_zero]; exact e, rfl, fun y hy => hx y (List.mem_cons_of_mem _ hy), some x, rfl⟩
    · intro y hy
      have : ([PV.non, .str [], .str [105, 110, 116, 101, 103, 101, 114], .int 1, .tup [.str [105, 110, 116]], .str [73, 110, 116]].all fun y => y.isD && !isKd y) = true := by decide
      have := List.all_eq_true.mp this y hy
      simpa using this
  obtain ⟨a7, f2⟩ := f2
  refine ⟨some (.lst (sorts v)), a6, a7, a8, a9, a10, ?_⟩
  simp [bodyV, kinds, hc, hl, f1, f2]
theorem evSs_append {C : Ctx} : ∀ (a b : List S) (ρ : Env) (h : AH), evSs C (a ++ b) ρ h = (evSs C a ρ h).bnd fun o h1 => (match o with
    | .next ρ' => evSs C b ρ' h1
    | .ret v => .ok (.ret v) h1)
  | [], b, ρ, h => by simp
  | s :: a, b, ρ, h => by
    rw [List.cons_append, evSs_cons, evSs_cons]
    cases evS C s ρ h with
    | ok o h1 =>
      cases o with
      | next ρ' => exact evSs_append a b ρ' h1
      | ret v => rfl
    | exc x h1 => rfl
    | stuck => rfl
def la : List PV := [.int 0, .int 1, .int 2, .int (-1), .int 1000000000, .int 1000000001, .int (-1000000001), .str [48], .str [49], .str [48, 49], .str [45, 48], .str [45, 55], .str [43, 55], .str [32, 55], .str [55, 32], .str [49, 48, 48, 48, 48, 48, 48, 48, 48, 49]]
def lb : List PV := [.str [116, 114, 117, 101], .str [102, 97, 108, 115, 101], .str [84, 114, 117, 101], .str [], .str (repL [97] 30), .str (repL [97] 31), .str (repL [49] 30), .str [45, 49, 48, 48, 48, 48, 48, 48, 48, 48, 48], .str [45], .str [45, 45, 49], .bl true, .bl false, .non]
def lc : List PV := [.int 1000, .tup [.int 1], .lst [.int 1], .str [126, 32, 33], .str [49, 46, 48]]
/-- one cell: all that is put together -/
theorem cell_ok {ns : List Int} {j : Nat} {h : AH} (hj : j < 64) (hh : hok h) (x0 : Option PV) (e0 : x0 = some (.scr (ns.map .int))) (x2 x3 x4 x5 x6 x7 x8 x9 x10 x11 : Option PV) :
    ∃ vs h', At h.length h' ∧ (∀ v ∈ vs, v.isD = true) ∧ vs.length ≤ 100 ∧ evSs C1 bodyA [x0, some (.int j), x2, x3, x4, x5, x6, x7, x8, x9, x10, x11] h = .ok (.next [x0, some (.int j), some (.ref h.length), some (.lst vs), x4, x5, x6, x7, x8, x9, x10, x11]) h' := by
  subst e0
  obtain ⟨a, b, s, e1⟩ := source_ok (k := 18) (ns := ns) hj hh
  have e1 : P.call 19 11 [.scr (ns.map .int), .int j] h = .ok (.ref h.length) (h ++ [srcO a b]) := e1
  have i1 : At h.length (h ++ [srcO a b]) := by
    refine ⟨⟨a, b, by simp, s⟩, fun o ho => ?_⟩
    rcases List.mem_append.mp ho with m | m
    · exact MO.under_mono (by simp) o (hh o m)
    · rw [List.mem_singleton.mp m]
      rfl
  have p9 : ∀ h, binV h .pow (.int 10) (.int 9) = some (.int 1000000000) := fun h => (bin_pow (by decide) (by decide) (by decide)).trans rfl
  have m30 : ∀ (h : AH) (c : Nat) (m : Int), 0 ≤ m → m < 100 → binV h .mul (.str [c]) (.int m) = some (.str (repL [c] m.toNat)) := fun h c m m0 m1 => by
    show ocond (decide (0 ≤ m) && decide (m < 1000) && decide ([c].length < 1000)) _ = _
    rw [decide_eq_true m0, decide_eq_true (show m < 1000 by omega)]
    rfl
  have add : ∀ (h : AH) (a b : List PV), a.length + b.length ≤ 100 → binV h .add (.lst a) (.lst b) = some (.lst (a ++ b)) := fun h a b l => add_lst h (by unfold zLine; omega)
  obtain ⟨os, h2, e2, s2, f2⟩ := compL_draw (f := cbody C1 [11] (.call 14 [(.var 2), (.call 15 [(.var 2)])]) (.name 11) [] [some (.scr (ns.map .int)), some (.int j), some (.ref h.length), some (.lst ((la ++ lb))), x4, x5, x6, x7, x8, x9, x10, x11])
    (G := fun _ o => ∃ v, o = some v ∧ v.isD = true) (xs := rngL 0 4) i1 (fun x hx h' i' _ => by
      obtain ⟨t, h3, e3, s3, t', rfl, ht⟩ := c15 (k := 16) i'
      obtain ⟨v, h4, e4, s4, g4⟩ := c14 (k := 16) (t := t') (Step.at i' s3) ht
      have e3 : P.call 19 15 [.ref h.length] h' = .ok (.str t') h3 := e3
      have e4 : P.call 19 14 [.ref h.length, .str t'] h3 = .ok v h4 := e4
      exact ⟨some v, h4, by simp [cbody, ocond, e3, e4], s3.trans s4, v, rfl, (such_D g4).1⟩)
  have hos : ∀ v ∈ os.filterMap id, v.isD = true := fun v hv => by
    obtain ⟨o, ho, e⟩ := List.mem_filterMap.mp hv
    obtain ⟨_, _, v', e', g⟩ := F2_mem f2 ho
    have : v' = v := by
      rw [e'] at e
      exact Option.some.inj e
    rw [← this]
    exact g
  have hlen : (os.filterMap id).length ≤ 4 := by
    have h1 := List.length_filterMap_le id os
    have h2 := f2.length
    rw [rngL_len] at h2
    omega
  have hz : (os.filterMap id).length ≤ zLine := by unfold zLine; omega
  refine ⟨((la ++ lb) ++ os.filterMap id) ++ lc, h2, Step.at i1 s2, fun v hv => ?_, by simp [la, lb, lc]; omega, ?_⟩
  · rcases List.mem_append.mp hv with m | m
    · rcases List.mem_append.mp m with m | m
      · have : ((la ++ lb).all fun v => v.isD) = true := by decide
        exact List.all_eq_true.mp this v m
      · exact hos v m
    · have : (lc.all fun v => v.isD) = true := by decide
      exact List.all_eq_true.mp this v m
  · have sm0 : small 0 = true := by decide
    have sm4 : small 4 = true := by decide
    simp only [la, lb, lc, List.cons_append, List.nil_append] at e2 ⊢
    simp [bodyA, e1, p9, m30, add, sm0, sm4]
    rw [e2]
    simp [add, hz]
    rw [add _ _ _ (by simp; omega)]
    simp
    rw [add _ _ _ (by simp; omega)]
    simp
theorem conv_is {v r : PV} {t : List Nat} {h : AH} (hv : valid v = true) (ht : kdOk t = true) (hc : change v t = some r) : conv v (.str t) h = .ok r h := by
  rw [conv_ok (.inr hv) ht, hc]
theorem law_k01 : ∀ ns : List Int, ns.length ≤ 63 → ∃ h', P.call 20 23 [.scr (ns.map .int)] [] = .ok (.bl true) h' := by
  intro ns hns
  rw [call_of d23]
  have key : ∃ h' a1 a2 a3 a4 a5 a6 a7 a8 a9 a10 a11, forL none (fbody C1 (.name 1) (bodyA ++ [(.for (.name 4) (.val (.bin .add (.var 3) (.frz (.disp [(.call 16 [(.var 2), (.cst (.int 2))])])))) bodyV)])) (rngL 0 (if (1 : Int) < (if (ns.length : Int) < 8 then (ns.length : Int) else 8) then (if (ns.length : Int) < 8 then (ns.length : Int) else 8) else 1).toNat)
      [some (.scr (ns.map .int)), none, none, none, none, none, none, none, none, none, none, none] [] = .ok (.next [some (.scr (ns.map .int)), a1, a2, a3, a4, a5, a6, a7, a8, a9, a10, a11]) h' := by
    refine forL_rule (fun xs ρ h => hok h ∧ (∀ x ∈ xs, ∃ j : Nat, x = .int j ∧ j < 64) ∧ ∃ a1 a2 a3 a4 a5 a6 a7 a8 a9 a10 a11, ρ = [some (.scr (ns.map .int)), a1, a2, a3, a4, a5, a6, a7, a8, a9, a10, a11])
      (fun r => ∃ h' a1 a2 a3 a4 a5 a6 a7 a8 a9 a10 a11, r = .ok (.next [some (.scr (ns.map .int)), a1, a2, a3, a4, a5, a6, a7, a8, a9, a10, a11]) h') (fun _ _ _ _ => rfl) (fun ρ h ⟨_, _, a1, a2, a3, a4, a5, a6, a7, a8, a9, a10, a11, e⟩ => ⟨h, a1, a2, a3, a4, a5, a6, a7, a8, a9, a10, a11, by rw [e]⟩) ?_ _ _ [] ⟨fun o ho => (by cases ho), ?_, none, none, none, none, none, none, none, none, none, none, none, rfl⟩
    · intro x r ρ h ⟨hh, hx, a1, a2, a3, a4, a5, a6, a7, a8, a9, a10, a11, e⟩
      subst e
      obtain ⟨j, rfl, hj⟩ := hx x (List.mem_cons_self ..)
      obtain ⟨vs, h1, i1, hvs, hl, eA⟩ := cell_ok (ns := ns) hj hh (some (.scr (ns.map .int))) rfl a2 a3 a4 a5 a6 a7 a8 a9 a10 a11
      obtain ⟨w, h2, e16, s2, w1, w2⟩ := c16 2 14 h1 (by omega) i1
      have e16 : P.call 19 16 [.ref h.length, .int 2] h1 = .ok w h2 := e16
      have f : ∃ b4 b5 b6 b7 b8 b9 b10, forL none (fbody C1 (.name 4) bodyV) (vs ++ [w]) [some (.scr (ns.map .int)), some (.int j), some (.ref h.length), some (.lst vs), a4, a5, a6, a7, a8, a9, a10, a11] h2 = .ok (.next [some (.scr (ns.map .int)), some (.int j), some (.ref h.length), some (.lst vs), b4, b5, b6, b7, b8, b9, b10, a11]) h2 := by
        refine forL_rule (fun xs ρ h' => h' = h2 ∧ (∀ x ∈ xs, x.isD = true) ∧ ∃ b4 b5 b6 b7 b8 b9 b10, ρ = [some (.scr (ns.map .int)), some (.int j), some (.ref h.length), some (.lst vs), b4, b5, b6, b7, b8, b9, b10, a11]) (fun r => ∃ b4 b5 b6 b7 b8 b9 b10, r = .ok (.next [some (.scr (ns.map .int)), some (.int j), some (.ref h.length), some (.lst vs), b4, b5, b6, b7, b8, b9, b10, a11]) h2) (fun _ _ _ _ => rfl)
          (fun ρ h' ⟨e, _, b4, b5, b6, b7, b8, b9, b10, e2⟩ => ⟨b4, b5, b6, b7, b8, b9, b10, by rw [e, e2]⟩) (fun x r ρ h' ⟨e, hx, b4, b5, b6, b7, b8, b9, b10, e2⟩ => ?_) _ _ h2 ⟨rfl, fun x hx => ?_, a4, a5, a6, a7, a8, a9, a10, rfl⟩
        · subst e e2
          obtain ⟨c5, c6, c7, c8, c9, c10, e⟩ := value_ok (h := h') (hx x (List.mem_cons_self ..)) (some (.scr (ns.map .int))) (some (.int j)) (some (.ref h.length)) (some (.lst vs)) b5 b6 b7 b8 b9 b10 a11
          exact .inl ⟨_, h', by simp only [fbody, setT_name, List.length_cons, List.length_nil, show decide (4 < 0 + 1 + 1 + 1 + 1 + 1 + 1 + 1 + 1 + 1 + 1 + 1 + 1) = true from rfl, ocond_true, List.set_cons_succ, List.set_cons_zero]; exact e, rfl, fun y hy => hx y (List.mem_cons_of_mem _ hy), some x, c5, c6, c7, c8, c9, c10, rfl⟩
        · rcases List.mem_append.mp hx with m | m
          · exact hvs x m
          · rw [List.mem_singleton.mp m]
            exact w1
      obtain ⟨b4, b5, b6, b7, b8, b9, b10, f⟩ := f
      have add : binV h2 .add (.lst vs) (.lst [w]) = some (.lst (vs ++ [w])) := add_lst h2 (by simp; unfold zLine; omega)
      refine .inl ⟨[some (.scr (ns.map .int)), some (.int j), some (.ref h.length), some (.lst vs), b4, b5, b6, b7, b8, b9, b10, a11], h2, ?_, (Step.at i1 s2).ok, fun y hy => hx y (List.mem_cons_of_mem _ hy), _, _, _, _, _, _, _, _, _, _, _, rfl⟩
      simp only [fbody, setT_name, List.length_cons, List.length_nil, show decide (1 < 0 + 1 + 1 + 1 + 1 + 1 + 1 + 1 + 1 + 1 + 1 + 1 + 1) = true from rfl, ocond_true, List.set_cons_succ, List.set_cons_zero]
      rw [evSs_append, eA]
      simp [e16, add, f]
    · intro x hx
      obtain ⟨i, rfl, i0, i1⟩ := rngL_mem hx
      refine ⟨i.toNat, by congr 1; omega, ?_⟩
      have : (if (1 : Int) < (if (ns.length : Int) < 8 then (ns.length : Int) else 8) then (if (ns.length : Int) < 8 then (ns.length : Int) else 8) else 1) ≤ 8 := by
        split <;> (try split) <;> omega
      omega
  obtain ⟨h', a1, a2, a3, a4, a5, a6, a7, a8, a9, a10, a11, key⟩ := key
  have hlen : biV [] .len [.scr (ns.map .int)] = some (.int ns.length) := by simp [biV, on1, lenV, dctOf, seqOf]
  have l1 : P.call 19 10 [.str [45, 55], .str [105, 110, 116]] h' = .ok (.int (-7)) h' := (c10 (k := 15) rfl rfl).trans (conv_is (by decide) (by decide) (by decide +kernel))
  have l2 : P.call 19 10 [.int 1, .str [102, 108, 97, 103]] h' = .ok (.bl true) h' := (c10 (k := 15) rfl rfl).trans (conv_is (by decide) (by decide) (by decide +kernel))
  have l3 : P.call 19 10 [.bl false, .str [105, 110, 116]] h' = .ok (.int 0) h' := (c10 (k := 15) rfl rfl).trans (conv_is (by decide) (by decide) (by decide +kernel))
  have hb : (if (1 : Int) < (if (ns.length : Int) < 8 then (ns.length : Int) else 8) then (if (ns.length : Int) < 8 then (ns.length : Int) else 8) else 1) ≤ 8 ∧ 0 ≤ (if (1 : Int) < (if (ns.length : Int) < 8 then (ns.length : Int) else 8) then (if (ns.length : Int) < 8 then (ns.length : Int) else 8) else 1) := by
    split <;> (try split) <;> omega
  refine ⟨[], ?_⟩
  refine (run_ok (h' := h') rfl rfl ?_ (Nat.zero_le _) (.inl rfl) rfl (Nat.zero_le _)).trans rfl
  have ht : cmpV h' .is (.bl true) (.bl true) = some true := rfl
  show evSs C1 b23 _ [] = _
  rw [b23_eq]
  generalize hm : (if (1 : Int) < (if (ns.length : Int) < 8 then (ns.length : Int) else 8) then (if (ns.length : Int) < 8 then (ns.length : Int) else 8) else 1) = m at *
  have sm : small m = true := small_of (by omega) (by omega)
  have sm0 : small 0 = true := by decide
  have sm2 : m.natAbs < 4611686018427387904 := by omega
  have sm3 : m ≤ 1000000 := by omega
  have eI : evI C1 (.rng (.cst (.int 0)) (.bi .max [(.cst (.int 1)), (.bi .min [(.cst (.int 8)), (.bi .len [(.var 0)])])])) [some (.scr (ns.map .int)), none, none, none, none, none, none, none, none, none, none, none] [] = .ok (rngL 0 m.toNat, none) [] := by
    simp [hlen, hm, sm, sm0, sm2, sm3]
  show evSs C1 _ [some (.scr (ns.map .int)), none, none, none, none, none, none, none, none, none, none, none] [] = _
  rw [evSs_cons, evS_for, eI]
  simp only [Res.bnd_ok]
  rw [key]
  simp [lastS, l1, l2, l3, ht]
end G
-- H_k01
set_option Elab.async false
set_option linter.all false
set_option maxRecDepth 100000
set_option maxHeartbeats 0
/-! The head of law k01, and its end (printed by mkh.py). -/
namespace Hd
open PySem PySem.Spec PyProof.Rows L2 Z
def nm0 : List PySem.Str := ["SchemaError", "InvalidValue", "InvalidType", "CannotConvert", "InvalidSchema", "InvalidData", "InvalidStep", "InvalidScript", "InvalidNumber", "InvalidTable", "InvalidRow", "InvalidNames", "InvalidWish", "InvalidApp", "InvalidColumns", "InvalidRows", "StepFails", "LosesData", "Conflict", "TooMany", "NothingToUndo", "TYPES", "MOST", "MOST_SIGNS", "FIGURES", "is_integer", "is_kind", "is_text", "is_such", "need_kind"]
def nm1 : List PySem.Str := ["is_value", "kind_of", "integer_of", "change_of", "converted", "_law_source", "_law_pick", "_law_of", "_law_values", "_law_kind", "_law_any_value", "_law_is_integer", "_law_is_such", "_law_same", "_law_sort", "_law_text_of", "_law_convert", "_law_errors", "_law_outcome", "_law_raises"]
def names : List PySem.Str := nm0 ++ nm1
abbrev R : PySem.W.OpenRow := PySem.W.OpenLaw.row PySem.Challenge.rw_schemasteps_k01_values_and_conversions
abbrev hk : PySem.W.Hook := He.hookX 4 ld.fa ld.fn [] ld.tf ld.ex
def ob (s : PySem.W.SharedT) : He.AlX := He.obsX 4 ld.fa ld.fn [] ld.tf ld.ex (HandSHeadRun.getT s)
theorem ob_eq (s : PySem.W.SharedT) : ob s = hk.obs s.abs := He.obsX_eq (HandSHeadRun.getT_eq s)
theorem run (w : World) : HandSHeadRun.RunEq R (PySem.W.view R.prog [53]) hk ob 30000 names w := by
  intro os
  kernel_rfl
end Hd
open PySem PySem.W PySem.Calls PyProof.Rows
set_option maxRecDepth 100000 in
set_option maxHeartbeats 0 in
theorem PySem.Challenge.cw_schemasteps_k01_values_and_conversions_holds : PySem.Challenge.rw_schemasteps_k01_values_and_conversions.Holds := by
  w_on; o_law
  refine HandSHeadRun.head_any (r := OpenLaw.row PySem.Challenge.rw_schemasteps_k01_values_and_conversions) (q := view (OpenLaw.row PySem.Challenge.rw_schemasteps_k01_values_and_conversions).prog [53]) (H := Hd.hk) (ob := Hd.ob) (M := 30000) (loose := Hd.names) (d := HandSHeadRun.topDef (OpenLaw.row PySem.Challenge.rw_schemasteps_k01_values_and_conversions).prog 53) (kwd := []) Hd.ob_eq
    (by kernel_rfl) (fun s => by kernel_rfl) Hd.run (by kernel_rfl) (by kernel_rfl) (by kernel_rfl) (by rfl) (by first | assumption | decide +kernel) (by decide +kernel) ⟨rfl, rfl, rfl, rfl, rfl, by decide +kernel⟩ ?hw ?hc
  case hw => w_witness2
  case hc =>
    exact Z.law_end (l := PySem.Challenge.rw_schemasteps_k01_values_and_conversions) (n := 63) (kk := 20) (r := Hd.r23) (bs := Hd.bs) (Pz := G.P) (ws := G.ws) rfl (by decide) (by kernel_rfl) (by kernel_rfl) ⟨rfl, by decide, by decide⟩ Hd.txt Hd.tr Hd.pz Hd.ws rfl (by unfold Hd.ld; simp) rfl rfl (fun ns h _ => G.law_k01 ns h)
