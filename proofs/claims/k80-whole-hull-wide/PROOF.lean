import PyProof.Rows.All
import Wide.All
import OpenK.AllK
import Wide.FinOn
import HandS.ForMost
import HandS.Wide
import HandS.Deep
import HandS.TupAny
import HandS.Walk
import HandS.Zip
import HandS.Conv
import HandS.Style
import HandS.Flow
import HandS.IsInst
import HandS.DictTup
import HandS.Defaults
import KE.SortData
import KE.DataCmp
import KE.GoesEnum
import HandS.TupLen
import KE.KStateDown
import HandS.ForExc
import HandS.WordsExc
import HandS.Head0
import HandS.Head1
import HandS.Head2
import HandS.HeadEnd
import HandS.HeadHook1
import HandS.HeadHook2
import PySem.Challenge.RW_halffilled_k80_whole_hull_wide
set_option Elab.async false
set_option linter.all false
set_option maxRecDepth 100000
set_option maxHeartbeats 1000000
section
set_option maxHeartbeats 1000000
/-! PLa: plain values T (trees), the little language IL over slots, and what must hold ahead of each piece of it (wp). -/
namespace PL
open PySem L2

/-! ### values -/
inductive T where
  | non | bl (b : Bool) | int (i : Int) | str (x : Str)
  | tup (xs : List T)
  | lst (o : Bool) (xs : List T)
  | dic (o : Bool) (ks vs : List T)
  /-- the law's script -/
  | scr (ns : List Int)
  deriving Inhabited

mutual
/-- nothing in it is owned -/
def isF : T → Bool
  | .non => true
  | .bl _ => true
  | .int _ => true
  | .str _ => true
  | .tup xs => isFs xs
  | .lst o xs => !o && isFs xs
  | .dic o ks vs => !o && (isFs ks && isFs vs)
  | .scr _ => true
def isFs : List T → Bool
  | [] => true
  | x :: xs => isF x && isFs xs
end
mutual
/-- all of it frozen -/
def fz : T → T
  | .non => .non
  | .bl b => .bl b
  | .int i => .int i
  | .str x => .str x
  | .tup xs => .tup (fzs xs)
  | .lst _ xs => .lst false (fzs xs)
  | .dic _ ks vs => .dic false (fzs ks) (fzs vs)
  | .scr ns => .scr ns
def fzs : List T → List T
  | [] => []
  | x :: xs => fz x :: fzs xs
end
mutual
/-- as the library's data -/
def data : T → PyData
  | .non => .none
  | .bl b => .bool b
  | .int i => .int i
  | .str x => .str x
  | .tup xs => .tuple (datas xs)
  | .lst _ xs => .list (datas xs)
  | .dic _ _ _ => .dict []
  | .scr _ => .dict []
def datas : List T → List PyData
  | [] => []
  | x :: xs => data x :: datas xs
end
theorem isFs_all : ∀ xs : List T, isFs xs = xs.all isF
  | [] => by simp [isFs]
  | x :: xs => by simp [isFs, isFs_all xs]
theorem fzs_map : ∀ xs : List T, fzs xs = xs.map fz
  | [] => by simp [fzs]
  | x :: xs => by simp [fzs, fzs_map xs]
theorem datas_map : ∀ xs : List T, datas xs = xs.map data
  | [] => by simp [datas]
  | x :: xs => by simp [datas, datas_map xs]
theorem isFs_mem {xs : List T} (h : isFs xs = true) {x : T} (hx : x ∈ xs) : isF x = true := by
  rw [isFs_all] at h
  exact List.all_eq_true.mp h x hx
mutual
theorem fz_isF : ∀ t : T, isF (fz t) = true
  | .non => rfl
  | .bl _ => rfl
  | .int _ => rfl
  | .str _ => rfl
  | .tup xs => by simp [fz, isF, fzs_isF xs]
  | .lst _ xs => by simp [fz, isF, fzs_isF xs]
  | .dic _ ks vs => by simp [fz, isF, fzs_isF ks, fzs_isF vs]
  | .scr _ => rfl
theorem fzs_isF : ∀ xs : List T, isFs (fzs xs) = true
  | [] => rfl
  | x :: xs => by simp [fzs, isFs, fz_isF x, fzs_isF xs]
end
mutual
theorem fz_of_isF : ∀ t : T, isF t = true → fz t = t
  | .non, _ => rfl
  | .bl _, _ => rfl
  | .int _, _ => rfl
  | .str _, _ => rfl
  | .tup xs, h => by simp only [isF] at h; simp only [fz, fzs_of_isF xs h]
  | .lst o xs, h => by
    simp only [isF, Bool.and_eq_true, Bool.not_eq_true'] at h
    simp only [fz, fzs_of_isF xs h.2, h.1]
  | .dic o ks vs, h => by
    simp only [isF, Bool.and_eq_true, Bool.not_eq_true'] at h
    simp only [fz, fzs_of_isF ks h.2.1, fzs_of_isF vs h.2.2, h.1]
  | .scr _, _ => rfl
theorem fzs_of_isF : ∀ xs : List T, isFs xs = true → fzs xs = xs
  | [], _ => rfl
  | x :: xs, h => by
    simp only [isFs, Bool.and_eq_true] at h
    simp only [fzs, fz_of_isF x h.1, fzs_of_isF xs h.2]
end

/-! ### operations on values -/
inductive Op where
  | add | sub | mul | fdiv | mod | pow | shl | band | bor
  deriving DecidableEq
inductive Rl where
  | eq | ne | lt | le | gt | ge | inn | nin | is | isn
  deriving DecidableEq

def opP : Op → T → T → (T → Prop) → Prop
  | .add, .int i, .int j, Q => Q (.int (i + j))
  | .add, .str x, .str y, Q => x.length + y.length ≤ sizeLine ∧ Q (.str (x ++ y))
  | .add, .tup xs, .tup ys, Q => isFs xs = true ∧ isFs ys = true ∧ xs.length + ys.length ≤ sizeLine ∧ Q (.tup (xs ++ ys))
  | .add, .lst _ xs, .lst _ ys, Q => isFs xs = true ∧ isFs ys = true ∧ xs.length + ys.length ≤ sizeLine ∧ Q (.lst true (xs ++ ys))
  | .sub, .int i, .int j, Q => Q (.int (i - j))
  | .mul, .int i, .int j, Q => (CMul i j ∨ CMulW i j) ∧ Q (.int (i * j))
  | .mul, .lst _ xs, .int k, Q => isFs xs = true ∧ -(2 ^ 63) ≤ k ∧ k < 2 ^ 63 ∧ xs.length * k.toNat ≤ sizeLine ∧ Q (.lst true (List.replicate k.toNat xs).flatten)
  | .fdiv, .int i, .int j, Q => CDiv i j ∧ Q (.int (i / j))
  | .mod, .int i, .int j, Q => 0 < j ∧ Q (.int (i % j))
  | .pow, .int i, .int j, Q => CPow i j ∧ Q (.int (i ^ j.toNat))
  | .shl, .int i, .int j, Q => CPow i j ∧ Q (.int (i * 2 ^ j.toNat))
  | .band, .int i, .int j, Q => Q (.int (Builtin.bitAnd i j))
  | .bor, .int i, .int j, Q => Q (.int (Builtin.bitOr i j))
  | _, _, _, _ => False

/-- a value that == and < and in may look at -/
def shp (t : T) : Bool := SeqAt.shaped (data t)
def eqT (a b : T) : Bool := PyData.eqv (data a) (data b)
/-- the two may be ordered -/
def ordable (a b : T) : Bool := shp a && (shp b && (PySem.W.alike (data a) (data b) && !(match a with | .non => true | _ => false)))
def ltT (a b : T) : Bool := PySem.W.dataLt (data a) (data b)

def items : T → Option (List T)
  | .tup xs => some xs
  | .lst _ xs => some xs
  | _ => none

/-- a key of a dict: an int or a text; a tuple of such -/
def k1 : T → Option Key
  | .int i => some (.inl i)
  | .str x => some (.inr x)
  | _ => none
def k1s : List T → Option (List Key)
  | [] => some []
  | x :: xs => (k1 x).bind fun k => (k1s xs).map (k :: ·)
def kT : T → Option (List Key)
  | .tup xs => k1s xs
  | _ => none
/-- the key is of the kind of the dict's own -/
def keyFit (a : T) (ks : List T) : Bool := ((k1 a).isSome && ks.all fun x => (k1 x).isSome) || ((kT a).isSome && ks.all fun x => (kT x).isSome)
/-- the place of a key -/
def keyIx (k : T) (ks : List T) : Option Nat := ks.findIdx? (fun x => eqT x k)
/-- a dict's keys, its values behind d[k] = v -/
def putKs (k : T) (ks : List T) : List T := if (keyIx k ks).isSome then ks else ks ++ [k]
def putVs (k v : T) (ks vs : List T) : List T := if (keyIx k ks).isSome then List.zipWith (fun x y => if eqT x k then v else y) ks vs else vs ++ [v]
/-- x op= y at a name -/
def augP : Op → T → T → (T → Prop) → Prop
  | .add, .int i, .int j, Q => Q (.int (i + j))
  | .sub, .int i, .int j, Q => Q (.int (i - j))
  | .mul, .int i, .int j, Q => CMul i j ∧ Q (.int (i * j))
  | .fdiv, .int i, .int j, Q => CDiv i j ∧ Q (.int (i / j))
  | .mod, .int i, .int j, Q => 0 < j ∧ Q (.int (i % j))
  | .add, .str x, .str y, Q => x.length + y.length ≤ sizeLine ∧ Q (.str (x ++ y))
  | _, _, _, _ => False

def isNon : T → Bool
  | .non => true
  | _ => false
def rlP : Rl → T → T → (Bool → Prop) → Prop
  | .eq, a, b, Q => shp a = true ∧ shp b = true ∧ Q (eqT a b)
  | .ne, a, b, Q => shp a = true ∧ shp b = true ∧ Q (!eqT a b)
  | .lt, .int i, .int j, Q => Q (decide (i < j))
  | .le, .int i, .int j, Q => Q (decide (i ≤ j))
  | .gt, .int i, .int j, Q => Q (decide (j < i))
  | .ge, .int i, .int j, Q => Q (decide (j ≤ i))
  | .lt, a, b, Q => ordable a b = true ∧ Q (ltT a b)
  | .gt, a, b, Q => ordable a b = true ∧ Q (ltT b a)
  | .le, a, b, Q => ordable a b = true ∧ Q (!ltT b a)
  | .ge, a, b, Q => ordable a b = true ∧ Q (!ltT a b)
  | .inn, a, .dic _ ks _, Q => keyFit a ks = true ∧ Q (keyIx a ks).isSome
  | .nin, a, .dic _ ks _, Q => keyFit a ks = true ∧ Q (!(keyIx a ks).isSome)
  | .inn, a, .lst _ xs, Q => shp a = true ∧ shp (.lst false xs) = true ∧ Q (xs.any fun x => eqT x a)
  | .nin, a, .lst _ xs, Q => shp a = true ∧ shp (.lst false xs) = true ∧ Q (!xs.any fun x => eqT x a)
  | .inn, a, .tup xs, Q => shp a = true ∧ shp (.tup xs) = true ∧ Q (xs.any fun x => eqT x a)
  | .nin, a, .tup xs, Q => shp a = true ∧ shp (.tup xs) = true ∧ Q (!xs.any fun x => eqT x a)
  | .is, a, .non, Q => Q (isNon a)
  | .isn, a, .non, Q => Q (!isNon a)
  | .is, .bl a, .bl b, Q => Q (a == b)
  | .isn, .bl a, .bl b, Q => Q (!(a == b))
  | _, _, _, _ => False

def isDic : T → Bool
  | .dic _ _ _ => true
  | _ => false
def isLst : T → Bool
  | .lst _ _ => true
  | _ => false
/-- truth of a value -/
def tru : T → Option Bool
  | .non => some false
  | .bl b => some b
  | .int i => some (i != 0)
  | .tup xs => some (!xs.isEmpty)
  | .lst _ xs => some (!xs.isEmpty)
  | .dic _ _ _ => none
  | .str _ => none
  | .scr _ => none

def idxT : T → T → Option T
  | .tup xs, .int i => atI xs i
  | .lst _ xs, .int i => atI xs i
  | .str z, .int i => if z.length ≤ sizeLine then (atI z.cps.toList i).map fun c => .str ⟨#[c]⟩ else none
  | .dic _ ks vs, k => if keyFit k ks then (keyIx k ks).bind fun j => vs[j]? else none
  | _, _ => none

/-- a slice: None's stand for parts left out -/
def slP : T → Option Int → Option Int → (T → Prop) → Prop
  | .tup xs, lo, hi, Q => isFs xs = true ∧ Q (.tup (cutV' xs lo hi))
  | .lst _ xs, lo, hi, Q => isFs xs = true ∧ Q (.lst true (cutV' xs lo hi))
  | .str z, lo, hi, Q => z.length ≤ sizeLine ∧ Q (.str (cutS z lo hi))
  | .scr ns, lo, hi, Q => Q (.lst true (cutV' (ns.map T.int) lo hi))
  | _, _, _, _ => False
where
  cutV' {α : Type} (xs : List α) (lo hi : Option Int) : List α := (xs.drop (HT.sIx xs.length 0 lo)).take (HT.sIx xs.length xs.length hi - HT.sIx xs.length 0 lo)

/-- the built-in classes that isinstance asks for -/
inductive Ty where
  | int | bool | str | tuple | list
  deriving DecidableEq
def isTy : Ty → T → Bool
  | .int, .int _ => true
  | .int, .bl _ => true
  | .bool, .bl _ => true
  | .str, .str _ => true
  | .tuple, .tup _ => true
  | .list, .lst _ _ => true
  | .list, .scr _ => true
  | _, _ => false

/-- built-ins of one value -/
inductive Bi where
  | len | list | tuple | int | sorted | abs | sum | all | any | str
  deriving DecidableEq
def intsT : List T → Option (List Int)
  | [] => some []
  | .int i :: r => (intsT r).map (i :: ·)
  | _ => none
def blsT : List T → Option (List Bool)
  | [] => some []
  | .bl b :: r => (blsT r).map (b :: ·)
  | _ => none
/-- xs can be sorted here: all alike, none None, tuples with an item at least (or no tuples at all) -/
def sortable (xs : List T) : Prop := PySem.W.AllAlike (datas xs) ∧ PySem.W.Sortable (datas xs) ∧ ∀ x ∈ xs, shp x = true
def biP : Bi → T → (T → Prop) → Prop
  | .len, .tup xs, Q => Q (.int xs.length)
  | .len, .lst _ xs, Q => Q (.int xs.length)
  | .len, .str z, Q => z.length ≤ sizeLine ∧ Q (.int z.length)
  | .len, .dic _ ks _, Q => Q (.int ks.length)
  | .list, .tup xs, Q => isFs xs = true ∧ Q (.lst true xs)
  | .list, .lst _ xs, Q => isFs xs = true ∧ Q (.lst true xs)
  | .tuple, .tup xs, Q => isFs xs = true ∧ Q (.tup xs)
  | .tuple, .lst _ xs, Q => isFs xs = true ∧ Q (.tup xs)
  | .int, .int i, Q => Q (.int i)
  | .int, .bl b, Q => Q (.int (if b then 1 else 0))
  | .abs, .int i, Q => Q (.int (if i < 0 then -i else i))
  | .sum, .lst _ xs, Q => ∃ ns, intsT xs = some ns ∧ Q (.int ns.sum)
  | .all, .lst _ xs, Q => ∃ bs, blsT xs = some bs ∧ Q (.bl (bs.all id))
  | .any, .lst _ xs, Q => ∃ bs, blsT xs = some bs ∧ Q (.bl (bs.any id))
  | .str, .int i, Q => i.natAbs.log2 < 1920 ∧ Q (.str (toString i))
  | .sorted, .lst _ xs, Q => isFs xs = true ∧ sortable xs ∧ Q (.lst true (xs.mergeSort (PySem.W.dataLe false data)))
  | .sorted, .tup xs, Q => isFs xs = true ∧ sortable xs ∧ Q (.lst true (xs.mergeSort (PySem.W.dataLe false data)))
  | _, _, _ => False
/-- built-ins of two values: min(a, b), max(a, b) -/
def mmP (mx : Bool) (a b : T) (Q : T → Prop) : Prop :=
  ∃ m n, a = .int m ∧ b = .int n ∧ Q (.int (if mx then (if n > m then n else m) else (if n < m then n else m)))

/-! ### slots -/
abbrev Env := List (Option T)
def wipeE : List Nat → Env → Env
  | [], Γ => Γ
  | v :: vs, Γ => (wipeE vs Γ).set v none
def keepF : Option T → Option T
  | some t => if isF t = true then some t else none
  | none => none
/-- the slots vs as they are in Γ0 (if nothing is owned there), the others as in Γ -/
def backE : List Nat → Env → Env → Env
  | [], _, Γ => Γ
  | v :: vs, Γ0, Γ => (backE vs Γ0 Γ).set v (keepF (Γ0.getD v none))

inductive G where
  | nm (i : Nat)
  | tp (gs : List G)
mutual
def bindG : G → T → Env → Option Env
  | .nm i, t, Γ => if i < Γ.length then some (Γ.set i (some t)) else none
  | .tp gs, .tup xs, Γ => bindGs gs xs Γ
  | .tp _, _, _ => none
def bindGs : List G → List T → Env → Option Env
  | [], [], Γ => some Γ
  | g :: gs, x :: xs, Γ => (bindG g x Γ).bind fun Γ1 => bindGs gs xs Γ1
  | _, _, _ => none
end

/-! ### the little language -/
mutual
inductive E where
  | non | bl (b : Bool) | int (i : Int) | str (x : Str)
  | cp (i : Nat) | take (i : Nat) | fz (e : E)
  | tup (es : Es) | lst (es : Es) | dic0
  | op (o : Op) (a b : E) | neg (a : E)
  | and (a b : E) | or (a b : E) | nott (p : P)
  | cmp (r : Rl) (a b : P) | chain (r1 r2 : Rl) (a b c : E)
  | ifx (c : C) (a b : E)
  | idx (p : P) (i : E) | sl (p : P) (lo hi : Oe)
  | call (f : Nat) (es : Es)
  | bi (b : Bi) (p : P) | mm (mx : Bool) (a b : E) | isi (p : P) (ty : Ty)
  | lc (own : List Nat) (it : I) (g : G) (c : Oc) (e : E)
  | pop (i : Nat) | get (p : P) (k d : E) | index (p : P) (k : E)
  | lrg (a b : E)
inductive Es where
  | nil | cons (e : E) (es : Es) | lend (i : Nat) (es : Es)
inductive P where
  | var (i : Nat) | tmp (e : E)
inductive Oe where
  | no | so (e : E)
inductive C where
  | val (p : P) | and (a b : C) | or (a b : C) | not (c : C) | cmp (r : Rl) (a b : P) | chain (r1 r2 : Rl) (a b c : E)
inductive Oc where
  | no | so (c : C)
inductive I where
  | seq (p : P) | rng1 (a : E) | rng2 (a b : E) | enum (p : P) | zip2 (p q : P) | zip3 (p q r : P)
end
mutual
inductive S where
  | asg (g : G) (e : E) | setIx (i : Nat) (k e : E) | aug (i : Nat) (o : Op) (e : E)
  | app (i : Nat) (e : E) | ext (i : Nat) (p : P) | ex (e : E)
  | ret (e : E) | retN
  | iff (c : C) (a b : Ss) | forr (g : G) (it : I) (body : Ss) | forB (g : G) (i : Nat) (body : Ss) | whl (c : C) (body : Ss)
  | brk | cnt | pas | kill (ks : List Nat) | frz (i : Nat)
inductive Ss where
  | nil | cons (s : S) (ss : Ss)
end

/-! ### what must hold ahead -/
/-- what a def is to be asked for: its arguments, what is wanted of its value and of its in-and-out parameters -/
abbrev Spec := List T → (T → List T → Prop) → Prop
structure Ends where
  nx : Env → Prop
  rt : T → Env → Prop
  bk : Env → Prop := fun _ => False
  ct : Env → Prop := fun _ => False

/-- a comprehension's turns -/
def lcLoop (own : List Nat) (step : T → Env → (Option T → Env → Prop) → Prop) : List T → Env → List T → (List T → Env → Prop) → Prop
  | [], Γ, acc, K => K acc Γ
  | x :: xs, Γ, acc, K => step x (wipeE own Γ) fun y Γ' => lcLoop own step xs (wipeE own Γ') (acc ++ y.toList) K
/-- a for's turns -/
def forLoop (step : T → (Env → Prop) → Env → Prop) (nx : Env → Prop) : List T → Env → Prop
  | [], Γ => nx Γ
  | x :: xs, Γ => step x (forLoop step nx xs) Γ
/-- a while's turns, n at most -/
def whlLoop (step : (Env → Prop) → Env → Prop) : Nat → Env → Prop
  | 0, _ => False
  | n + 1, Γ => step (whlLoop step n) Γ

def lentBack : List Nat → List T → Env → Env
  | i :: is, t :: ts, Γ => lentBack is ts (Γ.set i (some t))
  | _, _, Γ => Γ
/-- the slots that are lent in a list of arguments -/
def lends : Es → List Nat
  | .nil => []
  | .cons _ es => lends es
  | .lend i es => i :: lends es

/-- what an operand holds in the end: x, or what its slot holds now -/
def look : P → T → Env → T → Prop
  | .var i, _, Γ, t => Γ[i]? = some (some t)
  | .tmp _, x, _, t => t = x
/-- the arguments that aren't lent own nothing -/
def argsF : Es → List T → Bool
  | .nil, _ => true
  | .cons _ es, t :: ts => isF t && argsF es ts
  | .lend _ es, _ :: ts => argsF es ts
  | _, [] => true

/-- the outermost thing frozen -/
def sfz : T → T
  | .lst _ xs => .lst false xs
  | .dic _ ks vs => .dic false ks vs
  | t => t
/-- a name that is gone through is frozen -/
def holdE : P → T → Env → Env
  | .var i, t, Γ => Γ.set i (some (sfz t))
  | .tmp _, _, Γ => Γ
def hold (p : P) (x : T) (Γ : Env) (Q : List T → Env → Prop) : Prop := ∃ xs, items x = some xs ∧ isFs xs = true ∧ Q xs (holdE p x Γ)
/-- a range that a comprehension goes through is not too long -/
def lcCap : I → List T → Prop
  | .rng1 _, xs => xs.length ≤ sizeLine
  | .rng2 _ _, xs => xs.length ≤ sizeLine
  | _, _ => True

section
variable (Φ : Nat → Spec)
mutual
def wpE : E → Env → (T → Env → Prop) → Prop
  | .non, Γ, Q => Q .non Γ
  | .bl b, Γ, Q => Q (.bl b) Γ
  | .int i, Γ, Q => Q (.int i) Γ
  | .str x, Γ, Q => Q (.str x) Γ
  | .cp i, Γ, Q => ∃ t, Γ[i]? = some (some t) ∧ isF t = true ∧ Q t Γ
  | .take i, Γ, Q => ∃ t, Γ[i]? = some (some t) ∧ Q t (Γ.set i none)
  | .fz e, Γ, Q => wpE e Γ fun t Γ' => Q (fz t) Γ'
  | .tup es, Γ, Q => wpEs es Γ fun ts Γ' => ts.length ≤ sizeLine ∧ Q (.tup ts) Γ'
  | .lst es, Γ, Q => wpEs es Γ fun ts Γ' => ts.length ≤ sizeLine ∧ Q (.lst true ts) Γ'
  | .dic0, Γ, Q => Q (.dic true [] []) Γ
  | .op o a b, Γ, Q => wpE a Γ fun x Γ1 => wpE b Γ1 fun y Γ2 => opP o x y fun z => Q z Γ2
  | .neg a, Γ, Q => wpE a Γ fun x Γ1 => ∃ i, x = .int i ∧ Q (.int (-i)) Γ1
  | .and a b, Γ, Q => wpE a Γ fun x Γ1 => ∃ c, x = .bl c ∧ if c = true then wpE b Γ1 Q else Q (.bl false) Γ1
  | .or a b, Γ, Q => wpE a Γ fun x Γ1 => ∃ c, x = .bl c ∧ if c = true then Q (.bl true) Γ1 else wpE b Γ1 Q
  | .nott p, Γ, Q => wpP p Γ fun x Γ1 => ∃ c, tru x = some c ∧ Q (.bl (!c)) Γ1
  | .cmp r a b, Γ, Q => wpP a Γ fun x Γ1 => wpP b Γ1 fun y Γ2 => ∃ x', look a x Γ2 x' ∧ rlP r x' y fun c => Q (.bl c) Γ2
  | .chain r1 r2 a b c, Γ, Q => wpE a Γ fun x Γ1 => wpE b Γ1 fun y Γ2 => isF y = true ∧ rlP r1 x y fun c1 => if c1 = true then wpE c Γ2 fun z Γ3 => rlP r2 y z fun c2 => Q (.bl c2) Γ3 else Q (.bl false) Γ2
  | .ifx c a b, Γ, Q => wpC c Γ fun d Γ1 => if d = true then wpE a Γ1 Q else wpE b Γ1 Q
  | .idx p i, Γ, Q => wpP p Γ fun x Γ1 => wpE i Γ1 fun y Γ2 => ∃ x', look p x Γ2 x' ∧ ∃ v, idxT x' y = some v ∧ isF v = true ∧ Q v Γ2
  | .sl p lo hi, Γ, Q => wpP p Γ fun x Γ1 => wpOe lo Γ1 fun l Γ2 => wpOe hi Γ2 fun h Γ3 => ∃ x', look p x Γ3 x' ∧ slP x' l h fun v => Q v Γ3
  | .call f es, Γ, Q => wpEs es Γ fun ts Γ1 => argsF es ts = true ∧ Φ f ts fun v io => io.length = (lends es).length ∧ Q v (lentBack (lends es) io Γ1)
  | .bi b p, Γ, Q => wpP p Γ fun x Γ1 => biP b x fun v => Q v Γ1
  | .mm mx a b, Γ, Q => wpE a Γ fun x Γ1 => wpE b Γ1 fun y Γ2 => mmP mx x y fun v => Q v Γ2
  | .isi p ty, Γ, Q => wpP p Γ fun x Γ1 => Q (.bl (isTy ty x)) Γ1
  | .lc own it g c e, Γ, Q => wpI it Γ fun xs Γ1 => lcCap it xs ∧
      lcLoop own (fun x Γ' K => ∃ Γ2, bindG g x Γ' = some Γ2 ∧ wpOc c Γ2 fun b Γ3 => if b = true then wpE e Γ3 fun y Γ4 => isF y = true ∧ K (some y) Γ4 else K none Γ3) xs Γ1 [] fun ys Γ' => Q (.lst true ys) (backE own Γ1 Γ')
  | .pop i, Γ, Q => ∃ xs y, Γ[i]? = some (some (.lst true xs)) ∧ xs.getLast? = some y ∧ isFs xs = true ∧ Q y (Γ.set i (some (.lst true xs.dropLast)))
  | .get p k d, Γ, Q => wpP p Γ fun x Γ1 => isDic x = true ∧ wpE k Γ1 fun y Γ2 => wpE d Γ2 fun z Γ3 => ∃ x', look p x Γ3 x' ∧ ∃ o ks vs, x' = .dic o ks vs ∧ keyFit y ks = true ∧ isF z = true ∧ isFs vs = true ∧ Q (((keyIx y ks).bind fun j => vs[j]?).getD z) Γ3
  | .index p k, Γ, Q => wpP p Γ fun x Γ1 => isLst x = true ∧ wpE k Γ1 fun y Γ2 => ∃ x', look p x Γ2 x' ∧ ∃ o xs j, x' = .lst o xs ∧ shp (.lst o xs) = true ∧ shp y = true ∧ keyIx y xs = some j ∧ Q (.int (j : Nat)) Γ2
  | .lrg a b, Γ, Q => wpE a Γ fun x Γ1 => wpE b Γ1 fun y Γ2 => ∃ m n, x = .int m ∧ y = .int n ∧ RgOk m n ∧ Q (.lst true ((List.range (n - m).toNat).map fun (k : Nat) => .int (m + k))) Γ2
def wpEs : Es → Env → (List T → Env → Prop) → Prop
  | .nil, Γ, Q => Q [] Γ
  | .cons e es, Γ, Q => wpE e Γ fun x Γ1 => wpEs es Γ1 fun xs Γ2 => Q (x :: xs) Γ2
  | .lend i es, Γ, Q => ∃ t, Γ[i]? = some (some t) ∧ wpEs es (Γ.set i none) fun xs Γ2 => Q (t :: xs) Γ2
def wpP : P → Env → (T → Env → Prop) → Prop
  | .var i, Γ, Q => ∃ t, Γ[i]? = some (some t) ∧ Q t Γ
  | .tmp e, Γ, Q => wpE e Γ Q
def wpOe : Oe → Env → (Option Int → Env → Prop) → Prop
  | .no, Γ, Q => Q none Γ
  | .so e, Γ, Q => wpE e Γ fun x Γ1 => ∃ i, x = .int i ∧ Q (some i) Γ1
def wpC : C → Env → (Bool → Env → Prop) → Prop
  | .val p, Γ, Q => wpP p Γ fun x Γ1 => ∃ c, tru x = some c ∧ Q c Γ1
  | .and a b, Γ, Q => wpC a Γ fun c Γ1 => if c = true then wpC b Γ1 Q else Q false Γ1
  | .or a b, Γ, Q => wpC a Γ fun c Γ1 => if c = true then Q true Γ1 else wpC b Γ1 Q
  | .not a, Γ, Q => wpC a Γ fun c Γ1 => Q (!c) Γ1
  | .cmp r a b, Γ, Q => wpP a Γ fun x Γ1 => wpP b Γ1 fun y Γ2 => ∃ x', look a x Γ2 x' ∧ rlP r x' y fun c => Q c Γ2
  | .chain r1 r2 a b c, Γ, Q => wpE a Γ fun x Γ1 => wpE b Γ1 fun y Γ2 => isF y = true ∧ rlP r1 x y fun c1 => if c1 = true then wpE c Γ2 fun z Γ3 => rlP r2 y z fun c2 => Q c2 Γ3 else Q false Γ2
def wpOc : Oc → Env → (Bool → Env → Prop) → Prop
  | .no, Γ, Q => Q true Γ
  | .so c, Γ, Q => wpC c Γ Q
def wpI : I → Env → (List T → Env → Prop) → Prop
  | .seq p, Γ, R => wpP p Γ fun x Γ1 => hold p x Γ1 R
  | .rng1 a, Γ, R => wpE a Γ fun x Γ1 => ∃ n, x = .int n ∧ -(2 ^ 62) ≤ n ∧ n < 2 ^ 62 ∧ R ((List.range n.toNat).map fun (k : Nat) => .int k) Γ1
  | .rng2 a b, Γ, R => wpE a Γ fun x Γ1 => wpE b Γ1 fun y Γ2 => ∃ m n, x = .int m ∧ y = .int n ∧ (-(2 ^ 62) ≤ m ∧ m < 2 ^ 62 ∧ -(2 ^ 62) ≤ n ∧ n < 2 ^ 62) ∧ R ((List.range (n - m).toNat).map fun (k : Nat) => .int (m + k)) Γ2
  | .enum p, Γ, R => wpP p Γ fun x Γ1 => hold p x Γ1 fun xs Γ2 => R (xs.zipIdx.map fun q => .tup [.int (q.2 : Nat), q.1]) Γ2
  | .zip2 p q, Γ, R => wpP p Γ fun x Γ1 => hold p x Γ1 fun xs Γ2 => wpP q Γ2 fun y Γ3 => hold q y Γ3 fun ys Γ4 => R ((xs.zip ys).map fun z => .tup [z.1, z.2]) Γ4
  | .zip3 p q r, Γ, R => wpP p Γ fun x Γ1 => hold p x Γ1 fun xs Γ2 => wpP q Γ2 fun y Γ3 => hold q y Γ3 fun ys Γ4 => wpP r Γ4 fun z Γ5 => hold r z Γ5 fun zs Γ6 =>
      R ((xs.zip (ys.zip zs)).map fun z => .tup [z.1, z.2.1, z.2.2]) Γ6
end
mutual
def wpS : S → Ends → Env → Prop
  | .asg g e, D, Γ => wpE Φ e Γ fun t Γ1 => ∃ Γ2, bindG g t Γ1 = some Γ2 ∧ D.nx Γ2
  | .setIx i k e, D, Γ => wpE Φ e Γ fun t Γ1 => (∃ u, Γ1[i]? = some (some u)) ∧ wpE Φ k Γ1 fun y Γ2 => isF t = true ∧
      ((∃ xs j q, Γ2[i]? = some (some (.lst true xs)) ∧ y = .int j ∧ ixN xs.length j = some q ∧ D.nx (Γ2.set i (some (.lst true (xs.set q t))))) ∨
       (∃ ks vs, Γ2[i]? = some (some (.dic true ks vs)) ∧ keyFit y ks = true ∧ isFs vs = true ∧ ks.length < sizeLine ∧
         D.nx (Γ2.set i (some (.dic true (putKs y ks) (putVs y t ks vs))))))
  | .aug i o e, D, Γ => ∃ x, Γ[i]? = some (some x) ∧ isF x = true ∧ wpE Φ e Γ fun y Γ1 => augP o x y fun z => D.nx (Γ1.set i (some z))
  | .app i e, D, Γ => (∃ o us, Γ[i]? = some (some (.lst o us))) ∧ wpE Φ e Γ fun t Γ1 => ∃ xs, Γ1[i]? = some (some (.lst true xs)) ∧ xs.length < sizeLine ∧ D.nx (Γ1.set i (some (.lst true (xs ++ [t]))))
  | .ext i p, D, Γ => (∃ o us, Γ[i]? = some (some (.lst o us))) ∧ wpP Φ p Γ fun t Γ1 => ∃ xs ys, Γ1[i]? = some (some (.lst true xs)) ∧ items t = some ys ∧ isFs ys = true ∧ xs.length + ys.length ≤ sizeLine ∧ D.nx (Γ1.set i (some (.lst true (xs ++ ys))))
  | .ex e, D, Γ => wpE Φ e Γ fun _ Γ1 => D.nx Γ1
  | .ret e, D, Γ => wpE Φ e Γ D.rt
  | .retN, D, Γ => D.rt .non Γ
  | .iff c a b, D, Γ => wpC Φ c Γ fun d Γ1 => if d = true then wpSs a D Γ1 else wpSs b D Γ1
  | .forr g it body, D, Γ => wpI Φ it Γ fun xs Γ1 => forLoop (fun x again Γ' => ∃ Γ2, bindG g x Γ' = some Γ2 ∧ wpSs body { D with nx := again, ct := again, bk := D.nx } Γ2) D.nx xs Γ1
  | .forB g i body, D, Γ => ∃ ys, Γ[i]? = some (some (.lst true ys)) ∧ isFs ys = true ∧ forLoop (fun x again Γ' => ∃ Γ2, bindG g x Γ' = some Γ2 ∧ wpSs body { D with nx := again, ct := again, bk := fun Γ2 => D.nx (Γ2.set i (some (.lst true ys))) } Γ2)
      (fun Γ2 => D.nx (Γ2.set i (some (.lst true ys)))) ys (Γ.set i none)
  | .whl c body, D, Γ => ∃ n, whlLoop (fun again Γ' => wpC Φ c Γ' fun d Γ1 => if d = true then wpSs body { D with nx := again, ct := again, bk := D.nx } Γ1 else D.nx Γ1) n Γ
  | .brk, D, Γ => D.bk Γ
  | .cnt, D, Γ => D.ct Γ
  | .pas, D, Γ => D.nx Γ
  | .kill ks, D, Γ => D.nx (wipeE ks Γ)
  | .frz i, D, Γ => ∃ t, Γ[i]? = some (some t) ∧ D.nx (Γ.set i (some (fz t)))
def wpSs : Ss → Ends → Env → Prop
  | .nil, D, Γ => D.nx Γ
  | .cons s ss, D, Γ => wpS s { D with nx := wpSs ss D } Γ
end
end
end PL

end
section
set_option maxHeartbeats 1000000
/-! PLb: how plain values lie in the abstract heap (Rep), what a step may do to the heap (Ext), the state of a body (Ok). -/
namespace PL
open PySem PySem.Spec L2
open PyProof.Rows hiding St

def allK1 : List T → List Key → Prop
  | [], [] => True
  | t :: ts, k :: ks => k1 t = some k ∧ allK1 ts ks
  | _, _ => False
def allKT : List T → List (List Key) → Prop
  | [], [] => True
  | t :: ts, k :: ks => kT t = some k ∧ allKT ts ks
  | _, _ => False

/-- a list, a tuple that the written part holds -/
def KwL (K : PySem.W.Frag) (a : Addr) (xs : List V) : Prop :=
  ∃ (o : Obj) (its : Array Value) (n : Nat), K.lookup a = some o ∧ o.cls = .type "list" ∧ o.dict = none ∧ o.data = .seq its n ∧ its.size ≤ sizeLine ∧ Vals xs its.toList
section
variable (K : PySem.W.Frag) (H : Hp) (Z : Addr → Prop)
/-- frozen at a: never changed again -/
def FzL (a : Addr) (vs : List V) : Prop := Z a ∧ Rd H a (.lst vs)
def FzT (a : Addr) (vs : List V) : Prop := Z a ∧ H a = some (.tup vs)
/-- a dict with these keys and values, frozen or not by P -/
def DicAt (P : HO → Prop) (ks : List T) (vv : List V) : Prop :=
  (∃ kk : List Key, allK1 ks kk ∧ kk.length = vv.length ∧ P (.dK (kk.zip vv))) ∨ (∃ kk : List (List Key), allKT ks kk ∧ kk.length = vv.length ∧ P (.dT (kk.zip vv)))
mutual
def Rep : T → List Addr → V → Prop
  | .non, os, v => os = [] ∧ v = .non
  | .bl b, os, v => os = [] ∧ v = .bl b
  | .int i, os, v => os = [] ∧ v = .int i
  | .str x, os, v => os = [] ∧ v = .str x
  | .tup ts, os, v => ∃ a vs, v = .ref a ∧ FzT H Z a vs ∧ Reps ts os vs
  | .lst o ts, os, v => ∃ a vs, v = .ref a ∧ (match o with
    | true => ∃ os', os = a :: os' ∧ H a = some (.lst vs) ∧ Reps ts os' vs
    | false => os = [] ∧ FzL H Z a vs ∧ Reps ts [] vs)
  | .dic o ks ts, os, v => ∃ a vs, v = .ref a ∧ (match o with
    | true => ∃ os', os = a :: os' ∧ DicAt (fun u => H a = some u) ks vs ∧ Reps ts os' vs
    | false => os = [] ∧ DicAt (fun u => Z a ∧ H a = some u) ks vs ∧ Reps ts [] vs)
  | .scr ns, os, v => os = [] ∧ ∃ a, v = .ref a ∧ ((Z a ∧ Rd H a (.lst (ns.map V.int))) ∨ KwL K a (ns.map V.int))
def Reps : List T → List Addr → List V → Prop
  | [], os, vs => os = [] ∧ vs = []
  | t :: ts, os, vs => ∃ o1 o2 v vs', os = o1 ++ o2 ∧ vs = v :: vs' ∧ Rep t o1 v ∧ Reps ts o2 vs'
end
end

/-- what may have happened to the heap: os may have been changed, all else stands; os' is owned then -/
structure Ext (os : List Addr) (H : Hp) (Z : Addr → Prop) (H' : Hp) (Z' : Addr → Prop) (os' : List Addr) : Prop where
  same : ∀ a o, H a = some o → a ∉ os → H' a = some o
  zz : ∀ a, Z a → Z' a
  zn : ∀ a, Z' a → Z a ∨ a ∈ os ∨ H a = none
  fr : ∀ a ∈ os', a ∈ os ∨ H a = none
structure Own (H : Hp) (Z : Addr → Prop) (os : List Addr) : Prop where
  nd : os.Nodup
  nz : ∀ a ∈ os, ¬ Z a
  tr : ∀ a ∈ os, ∃ o, H a = some o
def Zt (H : Hp) (Z : Addr → Prop) : Prop := ∀ a, Z a → ∃ o, H a = some o

section
variable {os os' os1 os2 t : List Addr} {H H' H1 H2 : Hp} {Z Z' Z1 Z2 : Addr → Prop}
theorem Ext.refl : Ext os H Z H Z os := ⟨fun _ _ h _ => h, fun _ h => h, fun _ h => .inl h, fun _ h => .inl h⟩
theorem Ext.trans (e : Ext os H Z H1 Z1 os1) (f : Ext os1 H1 Z1 H2 Z2 os2) : Ext os H Z H2 Z2 os2 := by
  have nin : ∀ a o, H a = some o → a ∉ os → a ∉ os1 := fun a o h n m => by
    rcases e.fr a m with q | q
    · exact n q
    · rw [q] at h; cases h
  have back : ∀ a, H1 a = none → a ∈ os ∨ H a = none := fun a h => by
    cases q : H a with
    | none => exact .inr rfl
    | some o =>
      refine .inl (Classical.byContradiction fun n => ?_)
      rw [e.same a o q n] at h; cases h
  refine ⟨fun a o h n => f.same a o (e.same a o h n) (nin a o h n), fun a h => f.zz a (e.zz a h), fun a h => ?_, fun a h => ?_⟩
  · rcases f.zn a h with q | q | q
    · exact e.zn a q
    · exact .inr (e.fr a q)
    · exact .inr (back a q)
  · rcases f.fr a h with q | q
    · exact e.fr a q
    · exact back a q
theorem Ext.sub (e : Ext os H Z H' Z' os1) (h : ∀ a ∈ os', a ∈ os1) : Ext os H Z H' Z' os' := ⟨e.same, e.zz, e.zn, fun a m => e.fr a (h a m)⟩
theorem Ext.wide (e : Ext os H Z H' Z' os') (h : ∀ a ∈ os, a ∈ os1) : Ext os1 H Z H' Z' os' := by
  refine ⟨fun a o q n => e.same a o q fun m => n (h a m), e.zz, fun a q => ?_, fun a m => ?_⟩
  · rcases e.zn a q with r | r | r
    · exact .inl r
    · exact .inr (.inl (h a r))
    · exact .inr (.inr r)
  · rcases e.fr a m with r | r
    · exact .inl (h a r)
    · exact .inr r
/-- what is held beside stays -/
theorem Ext.frame (e : Ext os H Z H' Z' os') (t : List Addr) : Ext (t ++ os) H Z H' Z' (t ++ os') := by
  refine ⟨fun a o q n => e.same a o q fun m => n (List.mem_append_right _ m), e.zz, fun a q => ?_, fun a m => ?_⟩
  · rcases e.zn a q with r | r | r
    · exact .inl r
    · exact .inr (.inl (List.mem_append_right _ r))
    · exact .inr (.inr r)
  · rcases List.mem_append.mp m with r | r
    · exact .inl (List.mem_append_left _ r)
    · rcases e.fr a r with q | q
      · exact .inl (List.mem_append_right _ q)
      · exact .inr q
/-- .. and stays owned -/
theorem Own.frame (o : Own H Z (t ++ os)) (e : Ext os H Z H' Z' os') (o' : Own H' Z' os') : Own H' Z' (t ++ os') := by
  obtain ⟨n1, n2, n3⟩ := List.nodup_append.mp o.nd
  have dis : ∀ a ∈ t, a ∉ os := fun a h m => n3 a h a m rfl
  have dis' : ∀ a ∈ t, a ∉ os' := fun a h m => by
    rcases e.fr a m with q | q
    · exact dis a h q
    · obtain ⟨u, hu⟩ := o.tr a (List.mem_append_left _ h)
      rw [q] at hu; cases hu
  refine ⟨List.nodup_append.mpr ⟨n1, o'.nd, fun a h b m z => dis' a h (z ▸ m)⟩, fun a h => ?_, fun a h => ?_⟩
  · rcases List.mem_append.mp h with h | h
    · intro z
      rcases e.zn a z with q | q | q
      · exact o.nz a (List.mem_append_left _ h) q
      · exact dis a h q
      · obtain ⟨u, hu⟩ := o.tr a (List.mem_append_left _ h)
        rw [q] at hu; cases hu
    · exact o'.nz a h
  · rcases List.mem_append.mp h with h | h
    · obtain ⟨u, hu⟩ := o.tr a (List.mem_append_left _ h)
      exact ⟨u, e.same a u hu (dis a h)⟩
    · exact o'.tr a h
theorem Own.left (o : Own H Z (t ++ os)) : Own H Z t := ⟨(List.nodup_append.mp o.nd).1, fun a h => o.nz a (List.mem_append_left _ h), fun a h => o.tr a (List.mem_append_left _ h)⟩
theorem Own.right (o : Own H Z (t ++ os)) : Own H Z os := ⟨(List.nodup_append.mp o.nd).2.1, fun a h => o.nz a (List.mem_append_right _ h), fun a h => o.tr a (List.mem_append_right _ h)⟩
theorem Own.perm (o : Own H Z os) (p : os.Perm os') : Own H Z os' := ⟨p.nodup_iff.mp o.nd, fun a h => o.nz a (p.mem_iff.mpr h), fun a h => o.tr a (p.mem_iff.mpr h)⟩
theorem Own.sublist (o : Own H Z os) (p : os'.Sublist os) : Own H Z os' := ⟨o.nd.sublist p, fun a h => o.nz a (p.subset h), fun a h => o.tr a (p.subset h)⟩
theorem Own.nil : Own H Z [] := ⟨List.nodup_nil, fun a h => absurd h (by simp), fun a h => absurd h (by simp)⟩
theorem Own.apart (o : Own H Z (t ++ os)) {a : Addr} (h : a ∈ t) : a ∉ os := fun m => (List.nodup_append.mp o.nd).2.2 a h a m rfl
theorem Ext.keepO (e : Ext os H Z H' Z' os') (o : Own H Z (t ++ os)) : ∀ a ∈ t, ∀ u, H a = some u → H' a = some u := fun a h u q => e.same a u q (o.apart h)
theorem Ext.keepZ (e : Ext os H Z H' Z' os') (o : Own H Z os) : ∀ a u, Z a → H a = some u → H' a = some u := fun a u z q => e.same a u q fun m => o.nz a m z
end

section
variable {K : PySem.W.Frag} {H H' : Hp} {Z Z' : Addr → Prop}
theorem Rd.keep {a : Addr} {u : HO} (h : Rd H a u) (k : ∀ o, H a = some o → H' a = some o) : Rd H' a u := by
  rcases h with h | ⟨o, h⟩
  · exact .inl (k _ h)
  · exact .inr ⟨o, k _ h⟩
theorem FzL.keep {a : Addr} {vs : List V} (h : FzL H Z a vs) (hz : ∀ a, Z a → Z' a) (hs : ∀ a u, Z a → H a = some u → H' a = some u) : FzL H' Z' a vs := by
  obtain ⟨z, r⟩ := h
  exact ⟨hz a z, Rd.keep r fun o q => hs a o z q⟩
theorem FzT.keep {a : Addr} {vs : List V} (h : FzT H Z a vs) (hz : ∀ a, Z a → Z' a) (hs : ∀ a u, Z a → H a = some u → H' a = some u) : FzT H' Z' a vs := by
  obtain ⟨z, r⟩ := h
  exact ⟨hz a z, hs a _ z r⟩
theorem FzL.sq {a : Addr} {vs : List V} (h : FzL H Z a vs) : SqL K H a vs := .inl h.2
theorem FzT.sq {a : Addr} {vs : List V} (h : FzT H Z a vs) : SqT K H a vs := .inl (.inl h.2)
theorem DicAt.imp {P P' : HO → Prop} {ks : List T} {vv : List V} (h : DicAt P ks vv) (hp : ∀ u, P u → P' u) : DicAt P' ks vv := by
  rcases h with ⟨kk, h1, h2, h3⟩ | ⟨kk, h1, h2, h3⟩
  · exact .inl ⟨kk, h1, h2, hp _ h3⟩
  · exact .inr ⟨kk, h1, h2, hp _ h3⟩

mutual
theorem Rep.keep (hz : ∀ a, Z a → Z' a) (hs : ∀ a u, Z a → H a = some u → H' a = some u) : ∀ (t : T) {os : List Addr} {v : V}, Rep K H Z t os v → (∀ a ∈ os, ∀ u, H a = some u → H' a = some u) → Rep K H' Z' t os v
  | .non, _, _, h, _ => by simp only [Rep] at h ⊢; exact h
  | .bl _, _, _, h, _ => by simp only [Rep] at h ⊢; exact h
  | .int _, _, _, h, _ => by simp only [Rep] at h ⊢; exact h
  | .str _, _, _, h, _ => by simp only [Rep] at h ⊢; exact h
  | .tup ts, os, v, h, k => by
    simp only [Rep] at h ⊢
    obtain ⟨a, vs, e, f, r⟩ := h
    exact ⟨a, vs, e, f.keep hz hs, Reps.keep hz hs ts r k⟩
  | .lst true ts, os, v, h, k => by
    simp only [Rep] at h ⊢
    obtain ⟨a, vs, e, os', e1, f, r⟩ := h
    subst e1
    exact ⟨a, vs, e, os', rfl, k a List.mem_cons_self _ f, Reps.keep hz hs ts r fun b m => k b (List.mem_cons_of_mem _ m)⟩
  | .lst false ts, os, v, h, k => by
    simp only [Rep] at h ⊢
    obtain ⟨a, vs, e, e1, f, r⟩ := h
    exact ⟨a, vs, e, e1, f.keep hz hs, Reps.keep hz hs ts r fun b m => absurd m (by simp)⟩
  | .dic true ks ts, os, v, h, k => by
    simp only [Rep] at h ⊢
    obtain ⟨a, vs, e, os', e1, f, r⟩ := h
    subst e1
    exact ⟨a, vs, e, os', rfl, f.imp fun u q => k a List.mem_cons_self _ q, Reps.keep hz hs ts r fun b m => k b (List.mem_cons_of_mem _ m)⟩
  | .dic false ks ts, os, v, h, k => by
    simp only [Rep] at h ⊢
    obtain ⟨a, vs, e, e1, f, r⟩ := h
    exact ⟨a, vs, e, e1, f.imp fun u q => ⟨hz a q.1, hs a u q.1 q.2⟩, Reps.keep hz hs ts r fun b m => absurd m (by simp)⟩
  | .scr ns, os, v, h, k => by
    simp only [Rep] at h ⊢
    obtain ⟨e1, a, e, f⟩ := h
    refine ⟨e1, a, e, ?_⟩
    rcases f with ⟨z, r⟩ | f
    · exact .inl ⟨hz a z, Rd.keep r fun o q => hs a o z q⟩
    · exact .inr f
theorem Reps.keep (hz : ∀ a, Z a → Z' a) (hs : ∀ a u, Z a → H a = some u → H' a = some u) : ∀ (ts : List T) {os : List Addr} {vs : List V}, Reps K H Z ts os vs → (∀ a ∈ os, ∀ u, H a = some u → H' a = some u) → Reps K H' Z' ts os vs
  | [], _, _, h, _ => by simp only [Reps] at h ⊢; exact h
  | t :: ts, os, vs, h, k => by
    simp only [Reps] at h ⊢
    obtain ⟨o1, o2, v, vs', e1, e2, r1, r2⟩ := h
    subst e1
    exact ⟨o1, o2, v, vs', rfl, e2, Rep.keep hz hs t r1 fun a m => k a (List.mem_append_left _ m), Reps.keep hz hs ts r2 fun a m => k a (List.mem_append_right _ m)⟩
end
/-- a value that is held beside a step -/
theorem Rep.ext {os os' t : List Addr} {x : T} {v : V} (h : Rep K H Z x t v) (e : Ext os H Z H' Z' os') (o : Own H Z (t ++ os)) : Rep K H' Z' x t v :=
  Rep.keep e.zz (e.keepZ o.right) x h (e.keepO o)
theorem Reps.ext {os os' t : List Addr} {x : List T} {v : List V} (h : Reps K H Z x t v) (e : Ext os H Z H' Z' os') (o : Own H Z (t ++ os)) : Reps K H' Z' x t v :=
  Reps.keep e.zz (e.keepZ o.right) x h (e.keepO o)
mutual
/-- what has nothing owned owns nothing -/
theorem Rep.nil : ∀ (t : T) {os : List Addr} {v : V}, Rep K H Z t os v → isF t = true → os = []
  | .non, _, _, h, _ => by simp only [Rep] at h; exact h.1
  | .bl _, _, _, h, _ => by simp only [Rep] at h; exact h.1
  | .int _, _, _, h, _ => by simp only [Rep] at h; exact h.1
  | .str _, _, _, h, _ => by simp only [Rep] at h; exact h.1
  | .tup ts, os, v, h, f => by
    simp only [Rep] at h
    simp only [isF] at f
    obtain ⟨a, vs, e, _, r⟩ := h
    exact Reps.nil ts r f
  | .lst true ts, os, v, h, f => by simp [isF] at f
  | .lst false ts, os, v, h, f => by
    simp only [Rep] at h
    obtain ⟨a, vs, e, e1, _⟩ := h
    exact e1
  | .dic true ks ts, os, v, h, f => by simp [isF] at f
  | .dic false ks ts, os, v, h, f => by
    simp only [Rep] at h
    obtain ⟨a, vs, e, e1, _⟩ := h
    exact e1
  | .scr _, _, _, h, _ => by simp only [Rep] at h; exact h.1
theorem Reps.nil : ∀ (ts : List T) {os : List Addr} {vs : List V}, Reps K H Z ts os vs → isFs ts = true → os = []
  | [], _, _, h, _ => by simp only [Reps] at h; exact h.1
  | t :: ts, os, vs, h, f => by
    simp only [Reps] at h
    simp only [isFs, Bool.and_eq_true] at f
    obtain ⟨o1, o2, v, vs', e1, e2, r1, r2⟩ := h
    rw [e1, Rep.nil t r1 f.1, Reps.nil ts r2 f.2]
    rfl
end
mutual
/-- what is owned is tracked -/
theorem Rep.tr : ∀ (t : T) {os : List Addr} {v : V}, Rep K H Z t os v → ∀ a ∈ os, ∃ o, H a = some o
  | .non, _, _, h, a, m => by simp only [Rep] at h; rw [h.1] at m; cases m
  | .bl _, _, _, h, a, m => by simp only [Rep] at h; rw [h.1] at m; cases m
  | .int _, _, _, h, a, m => by simp only [Rep] at h; rw [h.1] at m; cases m
  | .str _, _, _, h, a, m => by simp only [Rep] at h; rw [h.1] at m; cases m
  | .tup ts, os, v, h, a, m => by
    simp only [Rep] at h
    obtain ⟨_, vs, e, _, r⟩ := h
    exact Reps.tr ts r a m
  | .lst true ts, os, v, h, a, m => by
    simp only [Rep] at h
    obtain ⟨b, vs, e, os', e1, f, r⟩ := h
    rw [e1] at m
    rcases List.mem_cons.mp m with rfl | m
    · exact ⟨_, f⟩
    · exact Reps.tr ts r a m
  | .lst false ts, os, v, h, a, m => by
    simp only [Rep] at h
    obtain ⟨_, vs, e, e1, _⟩ := h
    rw [e1] at m; cases m
  | .dic true ks ts, os, v, h, a, m => by
    simp only [Rep] at h
    obtain ⟨b, vs, e, os', e1, f, r⟩ := h
    rw [e1] at m
    rcases List.mem_cons.mp m with rfl | m
    · rcases f with ⟨_, _, _, q⟩ | ⟨_, _, _, q⟩ <;> exact ⟨_, q⟩
    · exact Reps.tr ts r a m
  | .dic false ks ts, os, v, h, a, m => by
    simp only [Rep] at h
    obtain ⟨_, vs, e, e1, _⟩ := h
    rw [e1] at m; cases m
  | .scr _, _, _, h, a, m => by simp only [Rep] at h; rw [h.1] at m; cases m
theorem Reps.tr : ∀ (ts : List T) {os : List Addr} {vs : List V}, Reps K H Z ts os vs → ∀ a ∈ os, ∃ o, H a = some o
  | [], _, _, h, a, m => by simp only [Reps] at h; rw [h.1] at m; cases m
  | t :: ts, os, vs, h, a, m => by
    simp only [Reps] at h
    obtain ⟨o1, o2, v, vs', e1, e2, r1, r2⟩ := h
    rw [e1] at m
    rcases List.mem_append.mp m with m | m
    · exact Rep.tr t r1 a m
    · exact Reps.tr ts r2 a m
end
theorem k1_fz {t : T} {k : Key} (h : k1 t = some k) : fz t = t := by
  cases t <;> simp [k1] at h <;> rfl
theorem k1s_fz : ∀ {ts : List T} {ks : List Key}, k1s ts = some ks → fzs ts = ts
  | [], _, _ => rfl
  | t :: ts, ks, h => by
    simp only [k1s] at h
    cases q : k1 t with
    | none => rw [q] at h; cases h
    | some k =>
      cases r : k1s ts with
      | none => rw [q, r] at h; cases h
      | some ks' => rw [PL.fzs, k1_fz q, k1s_fz r]
theorem kT_fz {t : T} {k : List Key} (h : kT t = some k) : fz t = t := by
  cases t with
  | tup xs => rw [PL.fz, k1s_fz (ks := k) h]
  | _ => cases h
theorem allK1_fz : ∀ {ts : List T} {ks : List Key}, allK1 ts ks → fzs ts = ts
  | [], _, _ => rfl
  | t :: ts, [], h => by cases h
  | t :: ts, k :: ks, h => by rw [PL.fzs, k1_fz h.1, allK1_fz h.2]
theorem allKT_fz : ∀ {ts : List T} {ks : List (List Key)}, allKT ts ks → fzs ts = ts
  | [], _, _ => rfl
  | t :: ts, [], h => by cases h
  | t :: ts, k :: ks, h => by rw [PL.fzs, kT_fz h.1, allKT_fz h.2]
theorem DicAt.fzs {P : HO → Prop} {ks : List T} {vv : List V} (h : DicAt P ks vv) : PL.fzs ks = ks := by
  rcases h with ⟨kk, h1, _⟩ | ⟨kk, h1, _⟩
  · exact allK1_fz h1
  · exact allKT_fz h1
mutual
/-- all that is owned is frozen -/
theorem Rep.fz (hz : ∀ a, Z a → Z' a) : ∀ (t : T) {os : List Addr} {v : V}, Rep K H Z t os v → (∀ a ∈ os, Z' a) → Rep K H Z' (fz t) [] v
  | .non, _, _, h, _ => by simp only [Rep, PL.fz] at h ⊢; exact ⟨trivial, h.2⟩
  | .bl _, _, _, h, _ => by simp only [Rep, PL.fz] at h ⊢; exact ⟨trivial, h.2⟩
  | .int _, _, _, h, _ => by simp only [Rep, PL.fz] at h ⊢; exact ⟨trivial, h.2⟩
  | .str _, _, _, h, _ => by simp only [Rep, PL.fz] at h ⊢; exact ⟨trivial, h.2⟩
  | .tup ts, os, v, h, k => by
    simp only [Rep, PL.fz] at h ⊢
    obtain ⟨a, vs, e, f, r⟩ := h
    exact ⟨a, vs, e, f.keep hz fun _ _ _ q => q, Reps.fz hz ts r k⟩
  | .lst true ts, os, v, h, k => by
    simp only [Rep, PL.fz] at h ⊢
    obtain ⟨a, vs, e, os', e1, f, r⟩ := h
    subst e1
    exact ⟨a, vs, e, trivial, ⟨k a List.mem_cons_self, .inl f⟩, Reps.fz hz ts r fun b m => k b (List.mem_cons_of_mem _ m)⟩
  | .lst false ts, os, v, h, k => by
    simp only [Rep, PL.fz] at h ⊢
    obtain ⟨a, vs, e, e1, f, r⟩ := h
    exact ⟨a, vs, e, trivial, f.keep hz fun _ _ _ q => q, Reps.fz hz ts r fun b m => absurd m (by simp)⟩
  | .dic true ks ts, os, v, h, k => by
    simp only [Rep, PL.fz] at h ⊢
    obtain ⟨a, vs, e, os', e1, f, r⟩ := h
    subst e1
    rw [f.fzs]
    exact ⟨a, vs, e, trivial, f.imp fun u q => ⟨k a List.mem_cons_self, q⟩, Reps.fz hz ts r fun b m => k b (List.mem_cons_of_mem _ m)⟩
  | .dic false ks ts, os, v, h, k => by
    simp only [Rep, PL.fz] at h ⊢
    obtain ⟨a, vs, e, e1, f, r⟩ := h
    rw [f.fzs]
    exact ⟨a, vs, e, trivial, f.imp fun u q => ⟨hz a q.1, q.2⟩, Reps.fz hz ts r fun b m => absurd m (by simp)⟩
  | .scr ns, os, v, h, k => by
    simp only [Rep, PL.fz] at h ⊢
    obtain ⟨e1, a, e, f⟩ := h
    refine ⟨trivial, a, e, ?_⟩
    rcases f with ⟨z, r⟩ | f
    · exact .inl ⟨hz a z, r⟩
    · exact .inr f
theorem Reps.fz (hz : ∀ a, Z a → Z' a) : ∀ (ts : List T) {os : List Addr} {vs : List V}, Reps K H Z ts os vs → (∀ a ∈ os, Z' a) → Reps K H Z' (fzs ts) [] vs
  | [], _, _, h, _ => by simp only [Reps, fzs] at h ⊢; exact ⟨trivial, h.2⟩
  | t :: ts, os, vs, h, k => by
    simp only [Reps, fzs] at h ⊢
    obtain ⟨o1, o2, v, vs', e1, e2, r1, r2⟩ := h
    subst e1
    exact ⟨[], [], v, vs', rfl, e2, Rep.fz hz t r1 fun a m => k a (List.mem_append_left _ m), Reps.fz hz ts r2 fun a m => k a (List.mem_append_right _ m)⟩
end

/-! ### the state of a body -/
structure Ok (K : PySem.W.Frag) (H : Hp) (Z : Addr → Prop) (Γ : Env) (Os : List (List Addr)) (σ : St) : Prop where
  ls : σ.length = Γ.length
  lo : Os.length = Γ.length
  get : ∀ i t, Γ[i]? = some (some t) → ∃ v, σ[i]? = some (some v) ∧ Rep K H Z t (Os.getD i []) v
  own : Own H Z Os.flatten
  zt : Zt H Z
/-- what stands behind a step that gives t -/
structure Res (K : PySem.W.Frag) (os0 : List Addr) (H : Hp) (Z : Addr → Prop) (σ : St) (t : T) (Γ' : Env) (v : V) (H' : Hp) (Z' : Addr → Prop) (Os' : List (List Addr)) (os : List Addr) : Prop where
  ok : Ok K H' Z' Γ' Os' σ
  rep : Rep K H' Z' t os v
  own : Own H' Z' (os ++ Os'.flatten)
  ext : Ext os0 H Z H' Z' (os ++ Os'.flatten)
/-- .. a list of values -/
structure Ress (K : PySem.W.Frag) (os0 : List Addr) (H : Hp) (Z : Addr → Prop) (σ : St) (ts : List T) (Γ' : Env) (vs : List V) (H' : Hp) (Z' : Addr → Prop) (Os' : List (List Addr)) (os : List Addr) : Prop where
  ok : Ok K H' Z' Γ' Os' σ
  rep : Reps K H' Z' ts os vs
  own : Own H' Z' (os ++ Os'.flatten)
  ext : Ext os0 H Z H' Z' (os ++ Os'.flatten)
/-- a new value, nothing else touched -/
structure Nw (K : PySem.W.Frag) (H : Hp) (Z : Addr → Prop) (z : T) (v : V) (H' : Hp) (Z' : Addr → Prop) (os : List Addr) : Prop where
  rep : Rep K H' Z' z os v
  own : Own H' Z' os
  ext : Ext [] H Z H' Z' os
  zt : Zt H' Z'
theorem Ext.zt0 {os os' : List Addr} (e : Ext os H Z H' Z' os') : True := trivial
theorem Own.ext0 {os t : List Addr} (o : Own H Z t) (e : Ext [] H Z H' Z' os) (o' : Own H' Z' os) : Own H' Z' (os ++ t) := by
  have q := Own.frame (t := t) (os := []) (by simpa using o) e o'
  exact q.perm List.perm_append_comm
theorem Ok.ext0 {Γ : Env} {Os : List (List Addr)} {σ : St} {os : List Addr} (ok : Ok K H Z Γ Os σ) (e : Ext [] H Z H' Z' os) (zt : Zt H' Z') : Ok K H' Z' Γ Os σ := by
  refine ⟨ok.ls, ok.lo, fun i t h => ?_, ?_, zt⟩
  · obtain ⟨v, h1, h2⟩ := ok.get i t h
    exact ⟨v, h1, h2.keep e.zz (fun a u _ q => e.same a u q (by simp)) t fun a _ u q => e.same a u q (by simp)⟩
  · refine ⟨ok.own.nd, fun a m z => ?_, fun a m => ?_⟩
    · rcases e.zn a z with q | q | q
      · exact ok.own.nz a m q
      · cases q
      · obtain ⟨u, hu⟩ := ok.own.tr a m
        rw [q] at hu; cases hu
    · obtain ⟨u, hu⟩ := ok.own.tr a m
      exact ⟨u, e.same a u hu (by simp)⟩
/-- a new value on top of what stands -/
theorem Nw.res {Γ : Env} {Os : List (List Addr)} {σ : St} {os0 os : List Addr} {H0 : Hp} {Z0 : Addr → Prop} {z : T} {v : V} (n : Nw K H Z z v H' Z' os) (ok : Ok K H Z Γ Os σ) (e : Ext os0 H0 Z0 H Z Os.flatten) : Res K os0 H0 Z0 σ z Γ v H' Z' Os os := by
  refine ⟨ok.ext0 n.ext n.zt, n.rep, ok.own.ext0 n.ext n.own, e.trans ?_⟩
  have q := n.ext.frame Os.flatten
  rw [List.append_nil] at q
  exact q.sub fun a m => by
    rcases List.mem_append.mp m with m | m
    · exact List.mem_append_right _ m
    · exact List.mem_append_left _ m
theorem Nw.scalar {z : T} {v : V} (h : Rep K H Z z [] v) (zt : Zt H Z) : Nw K H Z z v H Z [] := ⟨h, Own.nil, Ext.refl, zt⟩
/-- a new frozen object -/
theorem upd_zt {p : Addr} {o : HO} (zt : Zt H Z) : Zt (upd H p o) Z := fun a z => by
  obtain ⟨u, hu⟩ := zt a z
  by_cases h : a = p
  · exact ⟨o, by rw [h, upd_same]⟩
  · exact ⟨u, by rw [upd_ne h]; exact hu⟩
theorem upd_keep {p : Addr} {o : HO} (hp : H p = none) : ∀ a u, H a = some u → upd H p o a = some u := fun a u q => by
  rw [upd_ne (ne_of_none q hp)]; exact q
theorem new_fz {p : Addr} {o : HO} (hp : H p = none) (zt : Zt H Z) : Ext [] H Z (upd H p o) (fun a => Z a ∨ a = p) [] ∧ Zt (upd H p o) (fun a => Z a ∨ a = p) := by
  refine ⟨⟨fun a u q _ => upd_keep hp a u q, fun a z => .inl z, fun a z => ?_, fun a m => absurd m (by simp)⟩, fun a z => ?_⟩
  · rcases z with z | rfl
    · exact .inl z
    · exact .inr (.inr hp)
  · rcases z with z | rfl
    · exact upd_zt zt a z
    · exact ⟨o, upd_same⟩
theorem new_own {p : Addr} {o : HO} (hp : H p = none) (zt : Zt H Z) : Ext [] H Z (upd H p o) Z [p] ∧ Own (upd H p o) Z [p] := by
  refine ⟨⟨fun a u q _ => upd_keep hp a u q, fun a z => z, fun a z => .inl z, fun a m => ?_⟩, ⟨by simp, fun a m z => ?_, fun a m => ?_⟩⟩
  · rw [List.mem_singleton.mp m]; exact .inr hp
  · rw [List.mem_singleton.mp m] at z
    obtain ⟨u, hu⟩ := zt p z
    rw [hp] at hu; cases hu
  · rw [List.mem_singleton.mp m]; exact ⟨o, upd_same⟩
/-- a new tuple of frozen things, a new list of them -/
theorem Nw.tup {ts : List T} {vs : List V} {p : Addr} (h : Reps K H Z ts [] vs) (zt : Zt H Z) (hp : H p = none) : Nw K H Z (.tup ts) (.ref p) (upd H p (.tup vs)) (fun a => Z a ∨ a = p) [] := by
  obtain ⟨e, z⟩ := new_fz (o := .tup vs) hp zt
  refine ⟨?_, Own.nil, e, z⟩
  simp only [Rep]
  exact ⟨p, vs, rfl, ⟨.inr rfl, upd_same⟩, h.keep e.zz (fun a u _ q => upd_keep hp a u q) ts fun a m => absurd m (by simp)⟩
theorem Nw.lst {ts : List T} {vs : List V} {p : Addr} (h : Reps K H Z ts [] vs) (zt : Zt H Z) (hp : H p = none) : Nw K H Z (.lst true ts) (.ref p) (upd H p (.lst vs)) Z [p] := by
  obtain ⟨e, o⟩ := new_own (o := .lst vs) hp zt
  refine ⟨?_, o, e, upd_zt zt⟩
  simp only [Rep]
  exact ⟨p, vs, rfl, [], rfl, upd_same, h.keep (fun _ z => z) (fun a u _ q => upd_keep hp a u q) ts fun a m => absurd m (by simp)⟩
end

/-! ### readings by plain values -/
abbrev ME := Env → (T → Env → Prop) → Prop
abbrev MT := Env → (Bool → Env → Prop) → Prop
abbrev MA := Env → (List T → Env → Prop) → Prop
def tV (K : PySem.W.Frag) (w : ME) : TE := fun σ H Q => ∃ Γ Z Os Qt, Ok K H Z Γ Os σ ∧ w Γ Qt ∧
  ∀ t Γ' v H' Z' Os' os, Qt t Γ' → Res K Os.flatten H Z σ t Γ' v H' Z' Os' os → Q v H'
def tQ (K : PySem.W.Frag) (w : MT) : TT := fun σ H Q => ∃ Γ Z Os Qt, Ok K H Z Γ Os σ ∧ w Γ Qt ∧
  ∀ b Γ' H' Z' Os', Qt b Γ' → Ok K H' Z' Γ' Os' σ → Ext Os.flatten H Z H' Z' Os'.flatten → Q b H'
def tA (K : PySem.W.Frag) (w : MA) : TA := fun σ H Q => ∃ Γ Z Os Qt, Ok K H Z Γ Os σ ∧ w Γ Qt ∧
  ∀ ts Γ' vs H' Z' Os' os, Qt ts Γ' → Ress K Os.flatten H Z σ ts Γ' vs H' Z' Os' os → Q vs H'
theorem _root_.L2.PE.imp {X : Cx} {e : Expr} {t t' : TE} (h : PE X e t) (i : ∀ σ H Q, t' σ H Q → t σ H Q) : PE X e t' := ⟨fun pins s σ H Q I q => h.run pins s σ H Q I (i _ _ _ q)⟩
theorem _root_.L2.PT.imp {X : Cx} {e : Expr} {t t' : TT} (h : PT X e t) (i : ∀ σ H Q, t' σ H Q → t σ H Q) : PT X e t' := ⟨fun pins s σ H Q I q => h.run pins s σ H Q I (i _ _ _ q)⟩
theorem _root_.L2.PA.imp {X : Cx} {e : List Expr} {t t' : TA} (h : PA X e t) (i : ∀ σ H Q, t' σ H Q → t σ H Q) : PA X e t' := ⟨fun pos pins s σ H Q I q => h.run pos pins s σ H Q I (i _ _ _ q)⟩
theorem _root_.L2.PS.imp {X : Cx} {e : Stmt} {t t' : TS} (h : PS X e t) (i : ∀ D σ H, t' D σ H → t D σ H) : PS X e t' := ⟨fun pins s σ H D I q => h.run pins s σ H D I (i _ _ _ q)⟩
theorem _root_.L2.PSs.imp {X : Cx} {e : List Stmt} {t t' : TS} (h : PSs X e t) (i : ∀ D σ H, t' D σ H → t D σ H) : PSs X e t' := ⟨fun pins s σ H D I q => h.run pins s σ H D I (i _ _ _ q)⟩
theorem Res.exto {K : PySem.W.Frag} {os0 : List Addr} {H : Hp} {Z : Addr → Prop} {σ : St} {t : T} {Γ' : Env} {v : V} {H' : Hp} {Z' : Addr → Prop} {Os' : List (List Addr)} {os : List Addr}
    (r : Res K os0 H Z σ t Γ' v H' Z' Os' os) : Ext os0 H Z H' Z' Os'.flatten := r.ext.sub fun a m => List.mem_append_right _ m
end PL

end
section
set_option maxHeartbeats 1000000
/-! PLc: the operations on values keep what PLa says of them. -/
namespace PL
open PySem PySem.Spec L2
open PyProof.Rows hiding St

section
variable {X : Cx}
/-- an operation of two values, by plain values -/
def r2T (K : PySem.W.Frag) (p : T → T → (T → Prop) → Prop) : R2 := fun x y H Q => ∃ t1 t2 Z o1 o2 Qz, Zt H Z ∧ Rep K H Z t1 o1 x ∧ Rep K H Z t2 o2 y ∧ p t1 t2 Qz ∧
  ∀ z v H' Z' os', Qz z → Nw K H Z z v H' Z' os' → Q v H'
/-- a comparison -/
def r2B (K : PySem.W.Frag) (p : T → T → (Bool → Prop) → Prop) : R2 := fun x y H Q => ∃ t1 t2 Z o1 o2 Qz, Zt H Z ∧ Rep K H Z t1 o1 x ∧ Rep K H Z t2 o2 y ∧ p t1 t2 Qz ∧ ∀ c, Qz c → Q (.bl c) H
/-- a built-in of one value -/
def r1T (K : PySem.W.Frag) (p : T → (T → Prop) → Prop) : List V → Hp → VK → Prop := fun vs H Q => ∃ x t Z o Qz, vs = [x] ∧ Zt H Z ∧ Rep K H Z t o x ∧ p t Qz ∧
  ∀ z v H' Z' os', Qz z → Nw K H Z z v H' Z' os' → Q v H'

section
variable {K : PySem.W.Frag} {H H' : Hp} {Z Z' : Addr → Prop} {os : List Addr} {v : V}
theorem Rep.int_inv {i : Int} (h : Rep K H Z (.int i) os v) : v = .int i := by simp only [Rep] at h; exact h.2
theorem Rep.bl_inv {b : Bool} (h : Rep K H Z (.bl b) os v) : v = .bl b := by simp only [Rep] at h; exact h.2
theorem Rep.str_inv {x : Str} (h : Rep K H Z (.str x) os v) : v = .str x := by simp only [Rep] at h; exact h.2
theorem Rep.non_inv (h : Rep K H Z .non os v) : v = .non := by simp only [Rep] at h; exact h.2
theorem Rep.tup_inv {ts : List T} (h : Rep K H Z (.tup ts) os v) : ∃ a vs, v = .ref a ∧ FzT H Z a vs ∧ Reps K H Z ts os vs := by simp only [Rep] at h; exact h
theorem rep_int {i : Int} : Rep K H Z (.int i) [] (.int i) := by simp [Rep]
theorem rep_bl {b : Bool} : Rep K H Z (.bl b) [] (.bl b) := by simp [Rep]
theorem rep_str {x : Str} : Rep K H Z (.str x) [] (.str x) := by simp [Rep]
theorem rep_non : Rep K H Z .non [] .non := by simp [Rep]
/-- a list of frozen things -/
theorem Rep.lst_inv {o : Bool} {ts : List T} (h : Rep K H Z (.lst o ts) os v) (f : isFs ts = true) : ∃ a vs, v = .ref a ∧ Rd H a (.lst vs) ∧ Reps K H Z ts [] vs := by
  cases o with
  | true =>
    simp only [Rep] at h
    obtain ⟨a, vs, e, os', e1, q, r⟩ := h
    have := Reps.nil ts r f
    subst this
    exact ⟨a, vs, e, .inl q, r⟩
  | false =>
    simp only [Rep] at h
    obtain ⟨a, vs, e, e1, q, r⟩ := h
    exact ⟨a, vs, e, q.2, r⟩
/-- .. of any things -/
theorem Rep.lst_any {o : Bool} {ts : List T} (h : Rep K H Z (.lst o ts) os v) : ∃ a vs os', v = .ref a ∧ Rd H a (.lst vs) ∧ Reps K H Z ts os' vs := by
  cases o with
  | true =>
    simp only [Rep] at h
    obtain ⟨a, vs, e, os', e1, q, r⟩ := h
    exact ⟨a, vs, os', e, .inl q, r⟩
  | false =>
    simp only [Rep] at h
    obtain ⟨a, vs, e, e1, q, r⟩ := h
    exact ⟨a, vs, [], e, q.2, r⟩
theorem Rep.tup_f {ts : List T} (h : Rep K H Z (.tup ts) os v) (f : isFs ts = true) : ∃ a vs, v = .ref a ∧ FzT H Z a vs ∧ Reps K H Z ts [] vs := by
  obtain ⟨a, vs, e, q, r⟩ := h.tup_inv
  have := Reps.nil ts r f
  subst this
  exact ⟨a, vs, e, q, r⟩
theorem Reps.length : ∀ {ts : List T} {os : List Addr} {vs : List V}, Reps K H Z ts os vs → ts.length = vs.length
  | [], _, _, h => by simp only [Reps] at h; rw [h.2]; rfl
  | t :: ts, _, _, h => by
    simp only [Reps] at h
    obtain ⟨o1, o2, v, vs', _, e2, _, r2⟩ := h
    rw [e2, List.length_cons, List.length_cons, Reps.length r2]
theorem Reps.append : ∀ {ts us : List T} {o1 o2 : List Addr} {vs ws : List V}, Reps K H Z ts o1 vs → Reps K H Z us o2 ws → Reps K H Z (ts ++ us) (o1 ++ o2) (vs ++ ws)
  | [], us, o1, o2, vs, ws, h, h' => by
    simp only [Reps] at h
    rw [h.1, h.2]
    exact h'
  | t :: ts, us, o1, o2, vs, ws, h, h' => by
    simp only [Reps] at h
    obtain ⟨p1, p2, v, vs', e1, e2, r1, r2⟩ := h
    subst e1 e2
    rw [List.cons_append]
    simp only [Reps]
    exact ⟨p1, p2 ++ o2, v, vs' ++ ws, List.append_assoc .., rfl, r1, Reps.append r2 h'⟩
theorem Reps.take : ∀ {ts : List T} {vs : List V} (n : Nat), Reps K H Z ts [] vs → Reps K H Z (ts.take n) [] (vs.take n)
  | [], vs, n, h => by
    simp only [Reps] at h
    rw [h.2]; simp [Reps]
  | t :: ts, vs, 0, h => by simp [Reps]
  | t :: ts, vs, n + 1, h => by
    simp only [Reps] at h
    obtain ⟨p1, p2, v, vs', e1, e2, r1, r2⟩ := h
    obtain ⟨rfl, rfl⟩ := List.append_eq_nil_iff.mp e1.symm
    subst e2
    rw [List.take_succ_cons, List.take_succ_cons]
    simp only [Reps]
    exact ⟨[], [], v, _, rfl, rfl, r1, Reps.take n r2⟩
theorem Reps.drop : ∀ {ts : List T} {vs : List V} (n : Nat), Reps K H Z ts [] vs → Reps K H Z (ts.drop n) [] (vs.drop n)
  | [], vs, n, h => by
    simp only [Reps] at h
    rw [h.2]; simp [Reps]
  | t :: ts, vs, 0, h => h
  | t :: ts, vs, n + 1, h => by
    simp only [Reps] at h
    obtain ⟨p1, p2, v, vs', e1, e2, r1, r2⟩ := h
    obtain ⟨rfl, rfl⟩ := List.append_eq_nil_iff.mp e1.symm
    subst e2
    rw [List.drop_succ_cons, List.drop_succ_cons]
    exact Reps.drop n r2
theorem Reps.get : ∀ {ts : List T} {os : List Addr} {vs : List V} {i : Nat} {t : T}, Reps K H Z ts os vs → ts[i]? = some t → ∃ v o, vs[i]? = some v ∧ Rep K H Z t o v ∧ ∀ a ∈ o, a ∈ os
  | [], _, _, _, _, h, e => by simp at e
  | t :: ts, os, vs, 0, u, h, e => by
    simp only [Reps] at h
    obtain ⟨p1, p2, v, vs', e1, e2, r1, r2⟩ := h
    simp at e; subst e
    exact ⟨v, p1, by rw [e2]; rfl, r1, fun a m => by rw [e1]; exact List.mem_append_left _ m⟩
  | t :: ts, os, vs, i + 1, u, h, e => by
    simp only [Reps] at h
    obtain ⟨p1, p2, v, vs', e1, e2, r1, r2⟩ := h
    obtain ⟨w, o, h1, h2, h3⟩ := Reps.get (i := i) r2 (by simpa using e)
    exact ⟨w, o, by rw [e2]; simpa using h1, h2, fun a m => by rw [e1]; exact List.mem_append_right _ (h3 a m)⟩
theorem Reps.rep : ∀ (k : Nat) {ts : List T} {vs : List V}, Reps K H Z ts [] vs → Reps K H Z (List.replicate k ts).flatten [] (List.replicate k vs).flatten
  | 0, ts, vs, h => by simp [Reps]
  | k + 1, ts, vs, h => by
    rw [List.replicate_succ, List.replicate_succ, List.flatten_cons, List.flatten_cons]
    exact Reps.append h (Reps.rep k h)
theorem Reps.ints : ∀ (ns : List Int), Reps K H Z (ns.map T.int) [] (ns.map V.int)
  | [] => by simp [Reps]
  | n :: ns => by
    rw [List.map_cons, List.map_cons]
    simp only [Reps]
    exact ⟨[], [], .int n, _, rfl, rfl, rep_int, Reps.ints ns⟩
end

/-! ### lists that may be read, by their objects -/
theorem Inv.rdL {pins : List (Addr × Obj)} {σ : L2.St} {H : Hp} {s : Shared} {l : Addr} {xs : List V} (I : Inv X pins σ H s) (h : Rd H l (.lst xs)) :
    xs.length ≤ sizeLine ∧ ∃ (its : List Value) (n : Nat), Vals xs its ∧ xs.length = its.length ∧ s.heap.get? l = some { cls := .type "list", data := .seq its.toArray n } := by
  obtain ⟨z, its, n, r, e⟩ := h.ok I.hok
  exact ⟨z, its, n, r, r.length, e⟩
theorem op_catR : OpR X (binaryOp .Add) (fun x y H Q => ∃ l b xs zs, x = .ref l ∧ y = .ref b ∧ Rd H l (.lst xs) ∧ Rd H b (.lst zs) ∧ xs.length + zs.length ≤ sizeLine ∧ ∀ p, H p = none → Q (.ref p) (upd H p (.lst (xs ++ zs)))) := by
  intro pins s σ H x y v u Q I rx ry h
  obtain ⟨l, b, xs, zs, rfl, rfl, hH, hB, hz, q⟩ := h
  cases rx
  cases ry
  obtain ⟨z, its, n, r, hl, e⟩ := Inv.rdL I hH
  obtain ⟨z2, its2, n2, r2, hl2, e2⟩ := Inv.rdL I hB
  refine PySem.P.add_list e e2 ?_ (by rw [List.size_toArray, List.size_toArray]; omega)
  have ea : its.toArray ++ its2.toArray = (its ++ its2).toArray := by simp
  rw [ea]
  exact ⟨.ref _, _, I.lnew (t' := s.toks) (r.append r2) (by rw [List.length_append]; omega), rfl, q _ I.fresh⟩

theorem opT_add : OpR X (binaryOp .Add) (r2T X.K (opP .add)) := by
  intro pins s σ H x y v u Q I rx ry h
  obtain ⟨t1, t2, Z, o1, o2, Qz, zt, p1, p2, hp, k⟩ := h
  cases t1 with
  | int i =>
    cases t2 with
    | int j =>
      cases p1.int_inv; cases p2.int_inv
      exact op_add pins s σ H _ _ v u Q I rx ry ⟨i, j, rfl, rfl, k _ _ _ _ _ hp (.scalar rep_int zt)⟩
    | _ => exact False.elim hp
  | str i =>
    cases t2 with
    | str j =>
      cases p1.str_inv; cases p2.str_inv
      exact op_add_str pins s σ H _ _ v u Q I rx ry ⟨i, j, rfl, rfl, hp.1, k _ _ _ _ _ hp.2 (.scalar rep_str zt)⟩
    | _ => exact False.elim hp
  | tup xs =>
    cases t2 with
    | tup ys =>
      obtain ⟨f1, f2, hz, hq⟩ := hp
      obtain ⟨a, vs, rfl, q1, r1⟩ := p1.tup_f f1
      obtain ⟨b, ws, rfl, q2, r2⟩ := p2.tup_f f2
      refine op_catA pins s σ H _ _ v u Q I rx ry ⟨a, b, vs, ws, rfl, rfl, q1.sq, q2.sq, by rw [← r1.length, ← r2.length]; exact hz, fun e => ?_, fun _ e => ?_, fun _ _ p np => ?_⟩
      · subst e
        refine k _ _ _ _ _ hq (.scalar ?_ zt)
        have : xs = [] := List.eq_nil_of_length_eq_zero r1.length
        subst this
        simp only [Rep]
        exact ⟨b, ws, rfl, q2, r2⟩
      · subst e
        refine k _ _ _ _ _ hq (.scalar ?_ zt)
        have : ys = [] := List.eq_nil_of_length_eq_zero r2.length
        subst this
        rw [List.append_nil]
        simp only [Rep]
        exact ⟨a, vs, rfl, q1, r1⟩
      · exact k _ _ _ _ _ hq (.tup (r1.append r2) zt np)
    | _ => exact False.elim hp
  | lst o xs =>
    cases t2 with
    | lst o' ys =>
      obtain ⟨f1, f2, hz, hq⟩ := hp
      obtain ⟨a, vs, rfl, q1, r1⟩ := p1.lst_inv f1
      obtain ⟨b, ws, rfl, q2, r2⟩ := p2.lst_inv f2
      refine op_catR pins s σ H _ _ v u Q I rx ry ⟨a, b, vs, ws, rfl, rfl, q1, q2, by rw [← r1.length, ← r2.length]; exact hz, fun p np => ?_⟩
      exact k _ _ _ _ _ hq (.lst (r1.append r2) zt np)
    | _ => exact False.elim hp
  | _ => exact False.elim hp
/-- two ints -/
theorem opT_int {f : Value → Value → Sem Value} {C : Int → Int → Prop} {g : Int → Int → Int} (o : Op) (h0 : OpR X f (rI C fun i j => .int (g i j)))
    (hp : ∀ t1 t2 Q, opP o t1 t2 Q → ∃ i j, t1 = .int i ∧ t2 = .int j ∧ C i j ∧ Q (.int (g i j))) : OpR X f (r2T X.K (opP o)) := by
  intro pins s σ H x y v u Q I rx ry h
  obtain ⟨t1, t2, Z, o1, o2, Qz, zt, p1, p2, hq, k⟩ := h
  obtain ⟨i, j, rfl, rfl, hc, hq⟩ := hp t1 t2 Qz hq
  cases p1.int_inv; cases p2.int_inv
  exact h0 pins s σ H _ _ v u Q I rx ry ⟨i, j, rfl, rfl, hc, k _ _ _ _ _ hq (.scalar rep_int zt)⟩
theorem opR_true {f : Value → Value → Sem Value} {g : Int → Int → V} (h : OpR X f (rI0 g)) : OpR X f (rI (fun _ _ => True) g) := fun pins s σ H x y v u Q I rx ry ⟨i, j, e1, e2, _, q⟩ => h pins s σ H x y v u Q I rx ry ⟨i, j, e1, e2, q⟩
theorem opT_sub : OpR X (binaryOp .Sub) (r2T X.K (opP .sub)) := opT_int .sub (opR_true op_sub) fun t1 t2 Q h => by
  cases t1 <;> cases t2 <;> first | exact False.elim h | exact ⟨_, _, rfl, rfl, trivial, h⟩
theorem opT_fdiv : OpR X (binaryOp .FloorDiv) (r2T X.K (opP .fdiv)) := opT_int .fdiv op_fdiv fun t1 t2 Q h => by
  cases t1 <;> cases t2 <;> first | exact False.elim h | exact ⟨_, _, rfl, rfl, h.1, h.2⟩
theorem opT_mod : OpR X (binaryOp .Mod) (r2T X.K (opP .mod)) := opT_int .mod op_mod fun t1 t2 Q h => by
  cases t1 <;> cases t2 <;> first | exact False.elim h | exact ⟨_, _, rfl, rfl, h.1, h.2⟩
theorem opT_pow : OpR X (binaryOp .Pow) (r2T X.K (opP .pow)) := opT_int .pow op_pow fun t1 t2 Q h => by
  cases t1 <;> cases t2 <;> first | exact False.elim h | exact ⟨_, _, rfl, rfl, h.1, h.2⟩
theorem opT_shl : OpR X (binaryOp .LShift) (r2T X.K (opP .shl)) := opT_int .shl op_shl fun t1 t2 Q h => by
  cases t1 <;> cases t2 <;> first | exact False.elim h | exact ⟨_, _, rfl, rfl, h.1, h.2⟩
theorem opT_band : OpR X (binaryOp .BitAnd) (r2T X.K (opP .band)) := opT_int .band (opR_true op_and) fun t1 t2 Q h => by
  cases t1 <;> cases t2 <;> first | exact False.elim h | exact ⟨_, _, rfl, rfl, trivial, h⟩
theorem opT_bor : OpR X (binaryOp .BitOr) (r2T X.K (opP .bor)) := opT_int .bor (opR_true op_or) fun t1 t2 Q h => by
  cases t1 <;> cases t2 <;> first | exact False.elim h | exact ⟨_, _, rfl, rfl, trivial, h⟩
theorem op_repR : OpR X (binaryOp .Mult) (fun x y H Q => ∃ l k xs, x = .ref l ∧ y = .int k ∧ Rd H l (.lst xs) ∧ -(2 ^ 63) ≤ k ∧ k < 2 ^ 63 ∧ xs.length * k.toNat ≤ sizeLine ∧
    ∀ p, H p = none → Q (.ref p) (upd H p (.lst (List.replicate k.toNat xs).flatten))) := by
  intro pins s σ H x y v u Q I rx ry h
  obtain ⟨l, k, xs, rfl, rfl, hH, h1, h2, hz, q⟩ := h
  cases rx
  obtain ⟨t, rfl⟩ := ry
  obtain ⟨z, its, n, r, hl, e⟩ := Inv.rdL I hH
  have hlen : its.toArray.size * k.toNat ≤ sizeLine := by rw [List.size_toArray, ← hl]; exact hz
  have hcap : ¬ its.toArray.size * k.toNat > (2 ^ 63 - 1) / 8 := by
    have : (sizeLine : Nat) ≤ (2 ^ 63 - 1) / 8 := by decide
    omega
  have hfit : ¬ (!Builtin.List.listFitsIndex k) = true := by
    rw [fitsIndex_both h1 h2]
    exact Bool.false_ne_true
  have hlong : ¬ Builtin.List.listTooLong (its.toArray.size * k.toNat) = true := by
    rw [notLongL hlen]
    exact Bool.false_ne_true
  have hnew : List.foldl (fun x1 x2 => x1 ++ x2) #[] (List.replicate (if its.toArray.isEmpty = true then 0 else k.toNat) its.toArray) = (List.replicate k.toNat its).flatten.toArray := by
    have f0 : ∀ m : Nat, List.foldl (fun x1 x2 => x1 ++ x2) #[] (List.replicate m its.toArray) = (List.replicate m its).flatten.toArray := fun m => by
      have := foldl_rep its m []
      rw [List.nil_append] at this
      exact this
    rw [f0]
    cases its with
    | nil => simp
    | cons a r' => rw [if_neg (by simp)]
  refine wpAny_binaryOp_repeat_ref (T := "list") (U := "int") (by decide) ⟨_, e, rfl⟩ (fun s' => typeIs_int s' k t) noFill_list_mul F.fills_int_mul F.slot_int_rmul repeat_list F.slot_int_index.lookup
    (call_meets F.slot_int_rmul (typeIs_int s k t) F.entry_int_rmul (F.args_int_rmul_2 _ _) (int___rmul___int_list k t l its.toArray n)
      ⟨e, rfl, ⟨_, e, rfl⟩, call_meets F.slot_list_mul ⟨_, e, rfl⟩ F.entry_list_mul (F.args_list_mul_2 _ _) (AutoListH.list___mul___list_int_3 l its.toArray n k t hfit hcap hlong) ⟨e, ?_⟩⟩)
  rw [hnew]
  exact ⟨.ref _, _, I.lnew (t' := s.toks) (r.rep k.toNat) (by rw [PyProof.Rows.lm_len_rep_flat, Nat.mul_comm]; exact hz), rfl, q _ I.fresh⟩
theorem opT_mul : OpR X (binaryOp .Mult) (r2T X.K (opP .mul)) := by
  intro pins s σ H x y v u Q I rx ry h
  obtain ⟨t1, t2, Z, o1, o2, Qz, zt, p1, p2, hp, k⟩ := h
  cases t1 with
  | int i =>
    cases t2 with
    | int j =>
      cases p1.int_inv; cases p2.int_inv
      obtain ⟨hc, hq⟩ := hp
      rcases hc with hc | hc
      · exact op_mul pins s σ H _ _ v u Q I rx ry ⟨i, j, rfl, rfl, hc, k _ _ _ _ _ hq (.scalar rep_int zt)⟩
      · exact op_mulW pins s σ H _ _ v u Q I rx ry ⟨i, j, rfl, rfl, hc, k _ _ _ _ _ hq (.scalar rep_int zt)⟩
    | _ => exact False.elim hp
  | lst o xs =>
    cases t2 with
    | int j =>
      obtain ⟨f1, h1, h2, hz, hq⟩ := hp
      obtain ⟨a, vs, rfl, q1, r1⟩ := p1.lst_inv f1
      cases p2.int_inv
      refine op_repR pins s σ H _ _ v u Q I rx ry ⟨a, j, vs, rfl, rfl, q1, h1, h2, by rw [← r1.length]; exact hz, fun p np => ?_⟩
      exact k _ _ _ _ _ hq (.lst (r1.rep j.toNat) zt np)
    | _ => exact False.elim hp
  | _ => exact False.elim hp
/-- the operators of the text -/
def opA : Op → Operator
  | .add => .Add | .sub => .Sub | .mul => .Mult | .fdiv => .FloorDiv | .mod => .Mod | .pow => .Pow | .shl => .LShift | .band => .BitAnd | .bor => .BitOr
theorem opT : ∀ o : Op, OpR X (binaryOp (opA o)) (r2T X.K (opP o))
  | .add => opT_add | .sub => opT_sub | .mul => opT_mul | .fdiv => opT_fdiv | .mod => opT_mod | .pow => opT_pow | .shl => opT_shl | .band => opT_band | .bor => opT_bor

/-! ### in place, on names that hold ints or texts -/
theorem augT (o : Op) : OpR X (inplaceOp (opA o)) (r2T X.K (augP o)) := by
  intro pins s σ H x y v u Q I rx ry h
  obtain ⟨t1, t2, Z, o1, o2, Qz, zt, p1, p2, hp, k⟩ := h
  cases o <;> cases t1 <;> cases t2 <;> first | exact False.elim hp | skip
  · cases p1.int_inv; cases p2.int_inv
    exact iop_add pins s σ H _ _ v u Q I rx ry ⟨_, _, rfl, rfl, k _ _ _ _ _ hp (.scalar rep_int zt)⟩
  · cases p1.str_inv; cases p2.str_inv
    exact iop_add_str pins s σ H _ _ v u Q I rx ry ⟨_, _, rfl, rfl, hp.1, k _ _ _ _ _ hp.2 (.scalar rep_str zt)⟩
  · cases p1.int_inv; cases p2.int_inv
    exact iop_sub pins s σ H _ _ v u Q I rx ry ⟨_, _, rfl, rfl, k _ _ _ _ _ hp (.scalar rep_int zt)⟩
  · cases p1.int_inv; cases p2.int_inv
    exact iop_mul pins s σ H _ _ v u Q I rx ry ⟨_, _, rfl, rfl, hp.1, k _ _ _ _ _ hp.2 (.scalar rep_int zt)⟩
  · cases p1.int_inv; cases p2.int_inv
    exact iop_fdiv pins s σ H _ _ v u Q I rx ry ⟨_, _, rfl, rfl, hp.1, k _ _ _ _ _ hp.2 (.scalar rep_int zt)⟩
  · cases p1.int_inv; cases p2.int_inv
    exact iop_mod pins s σ H _ _ v u Q I rx ry ⟨_, _, rfl, rfl, hp.1, k _ _ _ _ _ hp.2 (.scalar rep_int zt)⟩

/-! ### comparisons -/
mutual
theorem dp_of {H : Hp} {Z : Addr → Prop} : ∀ (t : T) {os : List Addr} {v : V}, Rep X.K H Z t os v → (data t).canLay0 = true → Dp X.K H v (data t)
  | .non, _, _, h, _ => by rw [h.non_inv]; exact .non
  | .bl b, _, _, h, _ => by rw [h.bl_inv]; exact .bl b
  | .int i, _, _, h, _ => by rw [h.int_inv]; exact .int i
  | .str x, _, _, h, _ => by rw [h.str_inv]; exact .str x
  | .tup ts, _, _, h, c => by
    obtain ⟨a, vs, rfl, q, r⟩ := h.tup_inv
    simp only [data] at c ⊢
    simp only [PyData.canLay0] at c
    exact .tup q.sq (dps_of ts r c)
  | .lst o ts, _, _, h, c => by
    obtain ⟨a, vs, os', rfl, q, r⟩ := h.lst_any
    simp only [data] at c ⊢
    simp only [PyData.canLay0] at c
    exact .lst (.inl q) (dps_of ts r c)
  | .dic _ _ _, _, _, _, c => by simp [data, PyData.canLay0] at c
  | .scr _, _, _, _, c => by simp [data, PyData.canLay0] at c
theorem dps_of {H : Hp} {Z : Addr → Prop} : ∀ (ts : List T) {os : List Addr} {vs : List V}, Reps X.K H Z ts os vs → PyData.canLayAll0 (datas ts) = true → DpAll X.K H vs (datas ts)
  | [], _, _, h, _ => by simp only [Reps] at h; rw [h.2]; exact .nil
  | t :: ts, _, _, h, c => by
    simp only [Reps] at h
    obtain ⟨o1, o2, v, vs', _, e2, r1, r2⟩ := h
    simp only [datas, PyData.canLayAll0, Bool.and_eq_true] at c
    rw [e2]
    simp only [datas]
    exact .cons (dp_of t r1 c.1) (dps_of ts r2 c.2)
end
theorem dp_shp {H : Hp} {Z : Addr → Prop} {t : T} {os : List Addr} {v : V} (h : Rep X.K H Z t os v) (c : shp t = true) : Dp X.K H v (data t) := dp_of t h (SeqAt.canLay_of_shaped c)
def rlA : Rl → CmpOp
  | .eq => .Eq | .ne => .NotEq | .lt => .Lt | .le => .LtE | .gt => .Gt | .ge => .GtE | .inn => .In | .nin => .NotIn | .is => .Is | .isn => .IsNot
/-- two data that may be ordered -/
theorem ord_inv {a b : T} (h : ordable a b = true) : shp a = true ∧ shp b = true ∧ PySem.W.alike (data a) (data b) = true ∧ data a ≠ .none := by
  unfold ordable at h
  simp only [Bool.and_eq_true, Bool.not_eq_true'] at h
  refine ⟨h.1, h.2.1, h.2.2.1, ?_⟩
  cases a <;> simp [data] at h ⊢
theorem data_room {A : Around} {a b : T} (h : shp a = true) (hu : A.units + 64 < cLine) : A.units + min (data a).depth (data b).depth < cLine := SeqAt.room_of_shaped h hu
/-- .. by the rule of an order -/
theorem opB_ord {op : CmpOp} {f : T → T → Bool} (hu : X.A.units + 64 < cLine)
    (rule : ∀ (s : Shared) (E : Value → Shared → Prop) (v u : Value) (a b : T) (as bs : List Addr) (Q : Value → Shared → Prop), Reads s.heap v (data a) as → Reads s.heap u (data b) bs → PySem.W.alike (data a) (data b) = true → data a ≠ .none →
      X.A.units + min (data a).depth (data b).depth < cLine → Q (.bool (f a b)) s → wpAny (model X.prog X.w) X.A (compareOp op v u) Q E s) :
    ∀ (pins : List (Addr × Obj)) (s : Shared) (σ : L2.St) (H : Hp) (x y : V) (v u : Value) (Q : VK), Inv X pins σ H s → RelV x v → RelV y u → ∀ (t1 t2 : T) (Z : Addr → Prop) (o1 o2 : List Addr), Rep X.K H Z t1 o1 x → Rep X.K H Z t2 o2 y →
      ordable t1 t2 = true → Q (.bl (f t1 t2)) H → wpAny (model X.prog X.w) X.A (compareOp op v u) (EP X pins σ Q) X.xe s := by
  intro pins s σ H x y v u Q I rx ry t1 t2 Z o1 o2 p1 p2 ho q
  obtain ⟨s1, s2, al, nn⟩ := ord_inv ho
  obtain ⟨as, r1⟩ := Dp.reads I _ x v (dp_shp p1 s1) rx
  obtain ⟨bs, r2⟩ := Dp.reads I _ y u (dp_shp p2 s2) ry
  exact rule s _ v u t1 t2 as bs _ r1 r2 al nn (data_room s1 hu) ⟨.bl _, H, I, rfl, q⟩
theorem opB_lt (hu : X.A.units + 64 < cLine) : OpR X (compareOp .Lt) (r2B X.K (rlP .lt)) := by
  intro pins s σ H x y v u Q I rx ry h
  obtain ⟨t1, t2, Z, o1, o2, Qz, zt, p1, p2, hp, k⟩ := h
  have gen : (ordable t1 t2 = true ∧ Qz (ltT t1 t2)) → wpAny (model X.prog X.w) X.A (compareOp .Lt v u) (EP X pins σ Q) X.xe s := fun hq =>
    opB_ord hu (fun s E v u a b as bs Q r1 r2 al nn hu q => PySem.W.lt_data r1 r2 al nn hu q) pins s σ H x y v u Q I rx ry t1 t2 Z o1 o2 p1 p2 hq.1 (k _ hq.2)
  cases t1 with
  | int i =>
    cases t2 with
    | int j =>
      cases p1.int_inv; cases p2.int_inv
      exact op_lt pins s σ H _ _ v u Q I rx ry ⟨i, j, rfl, rfl, k _ hp⟩
    | _ => exact gen hp
  | _ => exact gen hp
theorem opB_gt (hu : X.A.units + 64 < cLine) : OpR X (compareOp .Gt) (r2B X.K (rlP .gt)) := by
  intro pins s σ H x y v u Q I rx ry h
  obtain ⟨t1, t2, Z, o1, o2, Qz, zt, p1, p2, hp, k⟩ := h
  have gen : (ordable t1 t2 = true ∧ Qz (ltT t2 t1)) → wpAny (model X.prog X.w) X.A (compareOp .Gt v u) (EP X pins σ Q) X.xe s := fun hq =>
    opB_ord (f := fun a b => ltT b a) hu (fun s E v u a b as bs Q r1 r2 al nn hu q => PySem.W.gt_data r1 r2 al nn hu q) pins s σ H x y v u Q I rx ry t1 t2 Z o1 o2 p1 p2 hq.1 (k _ hq.2)
  cases t1 with
  | int i =>
    cases t2 with
    | int j =>
      cases p1.int_inv; cases p2.int_inv
      exact op_gt pins s σ H _ _ v u Q I rx ry ⟨i, j, rfl, rfl, k _ hp⟩
    | _ => exact gen hp
  | _ => exact gen hp
theorem opB_le (hu : X.A.units + 64 < cLine) : OpR X (compareOp .LtE) (r2B X.K (rlP .le)) := by
  intro pins s σ H x y v u Q I rx ry h
  obtain ⟨t1, t2, Z, o1, o2, Qz, zt, p1, p2, hp, k⟩ := h
  have gen : (ordable t1 t2 = true ∧ Qz (!ltT t2 t1)) → wpAny (model X.prog X.w) X.A (compareOp .LtE v u) (EP X pins σ Q) X.xe s := fun hq =>
    opB_ord (f := fun a b => !ltT b a) hu (fun s E v u a b as bs Q r1 r2 al nn hu q => PySem.W.le_data r1 r2 al nn hu q) pins s σ H x y v u Q I rx ry t1 t2 Z o1 o2 p1 p2 hq.1 (k _ hq.2)
  cases t1 with
  | int i =>
    cases t2 with
    | int j =>
      cases p1.int_inv; cases p2.int_inv
      exact op_le pins s σ H _ _ v u Q I rx ry ⟨i, j, rfl, rfl, k _ hp⟩
    | _ => exact gen hp
  | _ => exact gen hp
theorem opB_ge (hu : X.A.units + 64 < cLine) : OpR X (compareOp .GtE) (r2B X.K (rlP .ge)) := by
  intro pins s σ H x y v u Q I rx ry h
  obtain ⟨t1, t2, Z, o1, o2, Qz, zt, p1, p2, hp, k⟩ := h
  have gen : (ordable t1 t2 = true ∧ Qz (!ltT t1 t2)) → wpAny (model X.prog X.w) X.A (compareOp .GtE v u) (EP X pins σ Q) X.xe s := fun hq =>
    opB_ord (f := fun a b => !ltT a b) hu (fun s E v u a b as bs Q r1 r2 al nn hu q => PySem.W.ge_data r1 r2 al nn hu q) pins s σ H x y v u Q I rx ry t1 t2 Z o1 o2 p1 p2 hq.1 (k _ hq.2)
  cases t1 with
  | int i =>
    cases t2 with
    | int j =>
      cases p1.int_inv; cases p2.int_inv
      exact op_ge pins s σ H _ _ v u Q I rx ry ⟨i, j, rfl, rfl, k _ hp⟩
    | _ => exact gen hp
  | _ => exact gen hp
theorem opB_eq (hu : X.A.units + 64 < cLine) : OpR X (compareOp .Eq) (r2B X.K (rlP .eq)) := by
  intro pins s σ H x y v u Q I rx ry h
  obtain ⟨t1, t2, Z, o1, o2, Qz, zt, p1, p2, ⟨s1, s2, hq⟩, k⟩ := h
  exact op_eqD hu pins s σ H _ _ v u Q I rx ry ⟨_, _, dp_shp p1 s1, dp_shp p2 s2, s1, s2, k _ hq⟩
theorem opB_ne (hu : X.A.units + 64 < cLine) : OpR X (compareOp .NotEq) (r2B X.K (rlP .ne)) := by
  intro pins s σ H x y v u Q I rx ry h
  obtain ⟨t1, t2, Z, o1, o2, Qz, zt, p1, p2, ⟨s1, s2, hq⟩, k⟩ := h
  exact op_neD hu pins s σ H _ _ v u Q I rx ry ⟨_, _, dp_shp p1 s1, dp_shp p2 s2, s1, s2, k _ hq⟩
theorem V.non_iff {H : Hp} {Z : Addr → Prop} {t : T} {os : List Addr} {v : V} (h : Rep X.K H Z t os v) : decide (v = .non) = isNon t := by
  cases t with
  | non => rw [h.non_inv]; rfl
  | bl b => rw [h.bl_inv]; rfl
  | int i => rw [h.int_inv]; rfl
  | str x => rw [h.str_inv]; rfl
  | tup ts => obtain ⟨a, vs, e, _⟩ := h.tup_inv; rw [e]; rfl
  | lst o ts => obtain ⟨a, vs, os', e, _⟩ := h.lst_any; rw [e]; rfl
  | dic o ks ts => simp only [Rep] at h; obtain ⟨a, vs, e, _⟩ := h; rw [e]; rfl
  | scr ns => simp only [Rep] at h; obtain ⟨_, a, e, _⟩ := h; rw [e]; rfl
theorem opB_is : OpR X (compareOp .Is) (r2B X.K (rlP .is)) := by
  intro pins s σ H x y v u Q I rx ry h
  obtain ⟨t1, t2, Z, o1, o2, Qz, zt, p1, p2, hp, k⟩ := h
  cases t2 with
  | non =>
    cases p2.non_inv
    have hp' : Qz (isNon t1) := by cases t1 <;> exact hp
    rw [← V.non_iff p1] at hp'
    exact op_isN pins s σ H _ _ v u Q I rx ry ⟨rfl, k _ hp'⟩
  | bl b =>
    cases t1 with
    | bl a =>
      cases p1.bl_inv; cases p2.bl_inv
      have hp' : Qz (a == b) := hp
      exact op_isBl pins s σ H _ _ v u Q I rx ry ⟨a, b, rfl, rfl, k _ (by rw [Bool.beq_eq_decide_eq] at hp'; exact hp')⟩
    | _ => exact False.elim hp
  | _ => cases t1 <;> exact False.elim hp
theorem opB_isn : OpR X (compareOp .IsNot) (r2B X.K (rlP .isn)) := by
  intro pins s σ H x y v u Q I rx ry h
  obtain ⟨t1, t2, Z, o1, o2, Qz, zt, p1, p2, hp, k⟩ := h
  cases t2 with
  | non =>
    cases p2.non_inv
    have hp' : Qz (!isNon t1) := by cases t1 <;> exact hp
    rw [← V.non_iff p1] at hp'
    exact op_notN pins s σ H _ _ v u Q I rx ry ⟨rfl, k _ hp'⟩
  | bl b =>
    cases t1 with
    | bl a =>
      cases p1.bl_inv; cases p2.bl_inv
      have hp' : Qz (!(a == b)) := hp
      exact op_notBl pins s σ H _ _ v u Q I rx ry ⟨a, b, rfl, rfl, k _ (by rw [Bool.beq_eq_decide_eq] at hp'; exact hp')⟩
    | _ => exact False.elim hp
  | _ => cases t1 <;> exact False.elim hp
end
end PL

end
section
set_option maxHeartbeats 1000000
/-! PLd: dicts, in, built-ins, items, slices, methods. -/
namespace PL
open PySem PySem.Spec L2
open PyProof.Rows hiding St

/-! ### keys -/
theorem eqT_k1 {x t : T} {a b : Key} (h1 : k1 x = some a) (h2 : k1 t = some b) : eqT x t = decide (a = b) := by
  cases x <;> simp only [k1, Option.some.injEq, reduceCtorEq] at h1 <;> subst h1 <;> cases t <;> simp only [k1, Option.some.injEq, reduceCtorEq] at h2 <;> subst h2
  · simp [eqT, data, PyData.eqv, Bool.beq_eq_decide_eq]
  · simp [eqT, data, PyData.eqv]
  · simp [eqT, data, PyData.eqv]
  · simp [eqT, data, PyData.eqv, Bool.beq_eq_decide_eq]
theorem eqv_k1s : ∀ {xs ys : List T} {a b : List Key}, k1s xs = some a → k1s ys = some b → PyData.eqvAll (datas xs) (datas ys) = decide (a = b)
  | [], [], a, b, h1, h2 => by
    simp only [k1s, Option.some.injEq] at h1 h2
    subst h1 h2
    simp [datas, PyData.eqvAll]
  | [], y :: ys, a, b, h1, h2 => by
    simp only [k1s, Option.some.injEq] at h1
    subst h1
    simp only [k1s, Option.bind_eq_some_iff, Option.map_eq_some_iff] at h2
    obtain ⟨k, _, ks, _, rfl⟩ := h2
    simp [datas, PyData.eqvAll]
  | x :: xs, [], a, b, h1, h2 => by
    simp only [k1s, Option.some.injEq] at h2
    subst h2
    simp only [k1s, Option.bind_eq_some_iff, Option.map_eq_some_iff] at h1
    obtain ⟨k, _, ks, _, rfl⟩ := h1
    simp [datas, PyData.eqvAll]
  | x :: xs, y :: ys, a, b, h1, h2 => by
    simp only [k1s, Option.bind_eq_some_iff, Option.map_eq_some_iff] at h1 h2
    obtain ⟨k, e1, ks, e2, rfl⟩ := h1
    obtain ⟨j, f1, js, f2, rfl⟩ := h2
    have q1 : PyData.eqv (data x) (data y) = decide (k = j) := eqT_k1 e1 f1
    have q2 := eqv_k1s e2 f2
    simp only [datas, PyData.eqvAll, q1, q2]
    by_cases h : k = j <;> by_cases h' : ks = js <;> simp [h, h']
theorem eqT_kT {x t : T} {a b : List Key} (h1 : kT x = some a) (h2 : kT t = some b) : eqT x t = decide (a = b) := by
  cases x <;> simp only [kT, reduceCtorEq] at h1
  cases t <;> simp only [kT, reduceCtorEq] at h2
  simp only [eqT, data, PyData.eqv]
  exact eqv_k1s h1 h2
theorem keyIx_nil (k : T) : keyIx k [] = none := rfl
theorem keyIx_cons (k x : T) (ks : List T) : keyIx k (x :: ks) = if eqT x k = true then some 0 else (keyIx k ks).map (· + 1) := by
  unfold keyIx
  rw [List.findIdx?_cons]
theorem val_k1 {κ : Type} [DecidableEq κ] {t : T} {k : κ} (f : T → Option κ) (he : ∀ {x a}, f x = some a → eqT x t = decide (a = k)) : ∀ {ks : List T} {kk : List κ} {vv : List V},
    (ks.map f = kk.map some) → kk.length = vv.length → valV (kk.zip vv) k = (keyIx t ks).bind fun j => vv[j]?
  | [], kk, vv, h, l => by
    have : kk = [] := by simpa using h.symm
    subst this
    rfl
  | x :: ks, [], vv, h, l => by simp at h
  | x :: ks, a :: kk, [], h, l => by simp at l
  | x :: ks, a :: kk, v :: vv, h, l => by
    simp only [List.map_cons, List.cons.injEq] at h
    have ih := val_k1 f he (ks := ks) (kk := kk) (vv := vv) h.2 (by simpa using l)
    have e := he h.1
    rw [keyIx_cons, e]
    by_cases ha : a = k
    · rw [List.zip_cons_cons, valV_pos (by exact ha), if_pos (by simp [ha])]
      rfl
    · rw [List.zip_cons_cons, valV_neg (by exact ha), if_neg (by simp [ha]), ih]
      cases keyIx t ks <;> simp
theorem allK1_map : ∀ {ks : List T} {kk : List Key}, allK1 ks kk → ks.map k1 = kk.map some
  | [], [], _ => rfl
  | [], _ :: _, h => by cases h
  | _ :: _, [], h => by cases h
  | x :: ks, a :: kk, h => by rw [List.map_cons, List.map_cons, h.1, allK1_map h.2]
theorem allKT_map : ∀ {ks : List T} {kk : List (List Key)}, allKT ks kk → ks.map kT = kk.map some
  | [], [], _ => rfl
  | [], _ :: _, h => by cases h
  | _ :: _, [], h => by cases h
  | x :: ks, a :: kk, h => by rw [List.map_cons, List.map_cons, h.1, allKT_map h.2]
theorem allK1_snoc : ∀ {ks : List T} {kk : List Key} {t : T} {k : Key}, allK1 ks kk → k1 t = some k → allK1 (ks ++ [t]) (kk ++ [k])
  | [], [], _, _, _, h => ⟨h, trivial⟩
  | [], _ :: _, _, _, h, _ => by cases h
  | _ :: _, [], _, _, h, _ => by cases h
  | x :: ks, a :: kk, _, _, h, h' => ⟨h.1, allK1_snoc h.2 h'⟩
theorem allKT_snoc : ∀ {ks : List T} {kk : List (List Key)} {t : T} {k : List Key}, allKT ks kk → kT t = some k → allKT (ks ++ [t]) (kk ++ [k])
  | [], [], _, _, _, h => ⟨h, trivial⟩
  | [], _ :: _, _, _, h, _ => by cases h
  | _ :: _, [], _, _, h, _ => by cases h
  | x :: ks, a :: kk, _, _, h, h' => ⟨h.1, allKT_snoc h.2 h'⟩
theorem allK1_len : ∀ {ks : List T} {kk : List Key}, allK1 ks kk → ks.length = kk.length
  | [], [], _ => rfl
  | [], _ :: _, h => by cases h
  | _ :: _, [], h => by cases h
  | x :: ks, a :: kk, h => by rw [List.length_cons, List.length_cons, allK1_len h.2]
theorem allKT_len : ∀ {ks : List T} {kk : List (List Key)}, allKT ks kk → ks.length = kk.length
  | [], [], _ => rfl
  | [], _ :: _, h => by cases h
  | _ :: _, [], h => by cases h
  | x :: ks, a :: kk, h => by rw [List.length_cons, List.length_cons, allKT_len h.2]
/-- which kinds of keys meet -/
theorem fit_cases {t : T} {ks : List T} (h : keyFit t ks = true) : (∃ k, k1 t = some k ∧ ∀ x ∈ ks, kT x = none) ∨ (∃ k, kT t = some k ∧ ∀ x ∈ ks, k1 x = none) := by
  have n1 : ∀ x : T, (k1 x).isSome = true → kT x = none := fun x q => by cases x <;> simp [k1, kT] at q ⊢
  have n2 : ∀ x : T, (kT x).isSome = true → k1 x = none := fun x q => by cases x <;> simp [k1, kT] at q ⊢
  unfold keyFit at h
  simp only [Bool.or_eq_true, Bool.and_eq_true, List.all_eq_true] at h
  rcases h with ⟨h1, h2⟩ | ⟨h1, h2⟩
  · obtain ⟨k, hk⟩ := Option.isSome_iff_exists.mp h1
    exact .inl ⟨k, hk, fun x hx => n1 x (h2 x hx)⟩
  · obtain ⟨k, hk⟩ := Option.isSome_iff_exists.mp h1
    exact .inr ⟨k, hk, fun x hx => n2 x (h2 x hx)⟩
theorem allK1_none : ∀ {ks : List T} {kk : List Key}, allK1 ks kk → (∀ x ∈ ks, k1 x = none) → ks = [] ∧ kk = []
  | [], [], _, _ => ⟨rfl, rfl⟩
  | [], _ :: _, h, _ => by cases h
  | _ :: _, [], h, _ => by cases h
  | x :: ks, a :: kk, h, n => by
    have := n x List.mem_cons_self
    rw [h.1] at this; cases this
theorem allKT_none : ∀ {ks : List T} {kk : List (List Key)}, allKT ks kk → (∀ x ∈ ks, kT x = none) → ks = [] ∧ kk = []
  | [], [], _, _ => ⟨rfl, rfl⟩
  | [], _ :: _, h, _ => by cases h
  | _ :: _, [], h, _ => by cases h
  | x :: ks, a :: kk, h, n => by
    have := n x List.mem_cons_self
    rw [h.1] at this; cases this

section
variable {X : Cx} {pins : List (Addr × Obj)} {σ : L2.St} {H : Hp} {s : Shared}
/-- the empty dict is of both kinds -/
theorem Inv.swapK {a : Addr} (I : Inv X pins σ H s) (h : H a = some (.dT [])) : Inv X pins σ (upd H a (.dK [])) s := by
  obtain ⟨z, hd, xs, r, o, es, ep, e, ex, hdat, hes, nd⟩ := I.hok a _ h
  have : xs = [] := by cases r; rfl
  subst this
  have hes' : es = #[] := by
    have : es.toList = [] := by simpa using hes
    simpa using this
  subst hes'
  refine I.write (x := a) (e := a) (h' := s.heap) (t' := s.toks) (by rw [h]; trivial) (.inl rfl) (fun b u _ q => q) ⟨o, e⟩ ⟨z, hd, [], .nil, o, #[], ep, e, ex, hdat, ?_, ?_, List.nodup_nil⟩
  · intro j hj; simp at hj
  · exact .nil
theorem Inv.swapT {a : Addr} (I : Inv X pins σ H s) (h : H a = some (.dK [])) : Inv X pins σ (upd H a (.dT [])) s := by
  obtain ⟨z, hd, vs, r, o, es, ep, e, ex, hdat, hk, pr, nd⟩ := I.hok a _ h
  have : vs = [] := by cases r; rfl
  subst this
  have hes' : es.toList = [] := by
    cases q : es.toList with
    | nil => rfl
    | cons a b => rw [q] at pr; cases pr
  refine I.write (x := a) (e := a) (h' := s.heap) (t' := s.toks) (by rw [h]; trivial) (.inl rfl) (fun b u _ q => q) ⟨o, e⟩ ⟨z, hd, [], .nil, o, es, ep, e, ex, hdat, by simpa using hes', List.nodup_nil⟩
theorem upd_back {a : Addr} {o u : HO} (h : H a = some u) : upd (upd H a o) a u = H := by
  rw [upd_upd]
  funext b
  unfold upd
  split
  · rename_i e; rw [e, h]
  · rfl
/-- what stands at a key -/
theorem Rep.key1 {Z : Addr → Prop} {t : T} {os : List Addr} {v : V} {k : Key} (h : Rep X.K H Z t os v) (e : k1 t = some k) : v = kV k := by
  cases t <;> simp only [k1, Option.some.injEq, reduceCtorEq] at e
  · subst e; exact h.int_inv
  · subst e; exact h.str_inv
theorem Reps.keys {Z : Addr → Prop} : ∀ {ts : List T} {os : List Addr} {vs : List V} {ks : List Key}, Reps X.K H Z ts os vs → k1s ts = some ks → vs = ks.map kV
  | [], _, _, ks, h, e => by
    simp only [k1s, Option.some.injEq] at e
    simp only [Reps] at h
    rw [h.2, ← e]; rfl
  | t :: ts, _, _, ks, h, e => by
    simp only [k1s, Option.bind_eq_some_iff, Option.map_eq_some_iff] at e
    obtain ⟨k, e1, kk, e2, rfl⟩ := e
    simp only [Reps] at h
    obtain ⟨o1, o2, v, vs', _, q, r1, r2⟩ := h
    rw [q, r1.key1 e1, Reps.keys r2 e2]; rfl
theorem Rep.keyT {Z : Addr → Prop} {t : T} {os : List Addr} {v : V} {k : List Key} (h : Rep X.K H Z t os v) (e : kT t = some k) : ∃ b, v = .ref b ∧ H b = some (.tup (k.map kV)) := by
  cases t <;> simp only [kT, reduceCtorEq] at e
  obtain ⟨a, vs, rfl, q, r⟩ := h.tup_inv
  rw [Reps.keys r e] at q
  exact ⟨a, rfl, q.2⟩
/-- a dict that may be read -/
theorem Rep.dic_inv {Z : Addr → Prop} {o : Bool} {ks ts : List T} {os : List Addr} {v : V} (h : Rep X.K H Z (.dic o ks ts) os v) : ∃ a vs os', v = .ref a ∧ DicAt (fun u => H a = some u) ks vs ∧ Reps X.K H Z ts os' vs := by
  cases o with
  | true =>
    simp only [Rep] at h
    obtain ⟨a, vs, e, os', _, d, r⟩ := h
    exact ⟨a, vs, os', e, d, r⟩
  | false =>
    simp only [Rep] at h
    obtain ⟨a, vs, e, _, d, r⟩ := h
    exact ⟨a, vs, [], e, d.imp fun u q => q.2, r⟩
/-- a look-up: the state, what is found; then back -/
theorem dic_look {Z : Addr → Prop} {a : Addr} {ks : List T} {vv : List V} {t : T} {os : List Addr} {y : V} (I : Inv X pins σ H s) (d : DicAt (fun u => H a = some u) ks vv) (r : Rep X.K H Z t os y) (f : keyFit t ks = true) :
    ∃ H1, Inv X pins σ H1 s ∧ DGet H1 a y ((keyIx t ks).bind fun j => vv[j]?) ∧ ∀ s', Inv X pins σ H1 s' → Inv X pins σ H s' := by
  rcases fit_cases f with ⟨k, hk, n⟩ | ⟨k, hk, n⟩
  · have ey := r.key1 hk
    subst ey
    rcases d with ⟨kk, h1, h2, h3⟩ | ⟨kk, h1, h2, h3⟩
    · refine ⟨H, I, ?_, fun _ q => q⟩
      rw [← val_k1 k1 (fun e => eqT_k1 e hk) (allK1_map h1) h2]
      exact DGet.k h3
    · obtain ⟨rfl, rfl⟩ := allKT_none h1 n
      refine ⟨upd H a (.dK []), Inv.swapK I h3, ?_, fun s' q => ?_⟩
      · exact DGet.k (kvs := []) upd_same
      · have := Inv.swapT q upd_same
        rw [upd_back (show H a = some (.dT []) from h3)] at this
        exact this
  · obtain ⟨b, rfl, hb⟩ := r.keyT hk
    rcases d with ⟨kk, h1, h2, h3⟩ | ⟨kk, h1, h2, h3⟩
    · obtain ⟨rfl, rfl⟩ := allK1_none h1 n
      refine ⟨upd H a (.dT []), Inv.swapT I h3, ?_, fun s' q => ?_⟩
      · refine DGet.t (kvs := []) upd_same (k := k) ?_
        rw [upd_ne (ne_of hb h3 (fun z => nomatch z))]; exact hb
      · have := Inv.swapK q upd_same
        rw [upd_back (show H a = some (.dK []) from h3)] at this
        exact this
    · refine ⟨H, I, ?_, fun _ q => q⟩
      rw [← val_k1 kT (fun e => eqT_kT e hk) (allKT_map h1) h2]
      exact DGet.t h3 hb
theorem find_some {t : T} {ks : List T} {vv : List V} (l : ks.length = vv.length) : ((keyIx t ks).bind fun j => vv[j]?).isSome = (keyIx t ks).isSome := by
  cases h : keyIx t ks with
  | none => rfl
  | some j =>
    unfold keyIx at h
    have hj := (List.findIdx?_eq_some_iff_getElem.mp h).1
    simp [show j < vv.length by omega]
theorem DicAt.len {P : HO → Prop} {ks : List T} {vv : List V} (d : DicAt P ks vv) : ks.length = vv.length := by
  rcases d with ⟨kk, h1, h2, _⟩ | ⟨kk, h1, h2, _⟩
  · rw [allK1_len h1, h2]
  · rw [allKT_len h1, h2]
end

section
variable {X : Cx}
theorem tupleAny {pins : List (Addr × Obj)} {σ : L2.St} {H : Hp} {s : Shared} {Z : Addr → Prop} (hu : X.A.units + 65 < cLine) (I : Inv X pins σ H s) {x y : V} {v u : Value} (rx : RelV x v) (ry : RelV y u) {t : T} {ts : List T} {o1 o2 : List Addr}
    (p1 : Rep X.K H Z t o1 x) (p2 : Rep X.K H Z (.tup ts) o2 y) (s1 : shp t = true) (s2 : shp (.tup ts) = true) {Q : VK} (q : Q (.bl (ts.any fun z => eqT z t)) H) :
    wpAny (model X.prog X.w) X.A (compareOp .In v u) (EP X pins σ Q) X.xe s := by
  obtain ⟨as, r1⟩ := Dp.reads I _ x v (dp_shp p1 s1) rx
  obtain ⟨bs, r2⟩ := Dp.reads I _ y u (dp_shp p2 s2) ry
  have e : (datas ts).any (fun z => PyData.eqv z (data t)) = ts.any fun z => eqT z t := by
    rw [datas_map, List.any_map]; rfl
  simp only [data] at r2
  exact SeqAt.in_tuple_reads r2 r1 (by have := SeqAt.canLay_of_shaped s2; simpa only [data, PyData.canLay0] using this) (SeqAt.canLay_of_shaped s1) (by
    have h1 := SeqAt.depth_of_shaped s1
    have h2 : min (PyData.depthAll (datas ts)) (data t).depth ≤ (data t).depth := Nat.min_le_right _ _
    omega) ⟨.bl _, H, I, rfl, by rw [e]; exact q⟩
theorem tupleNone {pins : List (Addr × Obj)} {σ : L2.St} {H : Hp} {s : Shared} {Z : Addr → Prop} (hu : X.A.units + 65 < cLine) (I : Inv X pins σ H s) {x y : V} {v u : Value} (rx : RelV x v) (ry : RelV y u) {t : T} {ts : List T} {o1 o2 : List Addr}
    (p1 : Rep X.K H Z t o1 x) (p2 : Rep X.K H Z (.tup ts) o2 y) (s1 : shp t = true) (s2 : shp (.tup ts) = true) {Q : VK} (q : Q (.bl (!ts.any fun z => eqT z t)) H) :
    wpAny (model X.prog X.w) X.A (compareOp .NotIn v u) (EP X pins σ Q) X.xe s := by
  obtain ⟨as, r1⟩ := Dp.reads I _ x v (dp_shp p1 s1) rx
  obtain ⟨bs, r2⟩ := Dp.reads I _ y u (dp_shp p2 s2) ry
  have e : (datas ts).any (fun z => PyData.eqv z (data t)) = ts.any fun z => eqT z t := by
    rw [datas_map, List.any_map]; rfl
  simp only [data] at r2
  exact SeqAt.notIn_tuple_reads r2 r1 (by have := SeqAt.canLay_of_shaped s2; simpa only [data, PyData.canLay0] using this) (SeqAt.canLay_of_shaped s1) (by
    have h1 := SeqAt.depth_of_shaped s1
    have h2 : min (PyData.depthAll (datas ts)) (data t).depth ≤ (data t).depth := Nat.min_le_right _ _
    omega) ⟨.bl _, H, I, rfl, by rw [e]; exact q⟩
theorem any_datas (t : T) (ts : List T) : (datas ts).any (fun z => PyData.eqv z (data t)) = ts.any fun z => eqT z t := by
  rw [datas_map, List.any_map]; rfl
theorem opB_inn (hu : X.A.units + 65 < cLine) : OpR X (compareOp .In) (r2B X.K (rlP .inn)) := by
  intro pins s σ H x y v u Q I rx ry h
  obtain ⟨t1, t2, Z, o1, o2, Qz, zt, p1, p2, hp, k⟩ := h
  cases t2 with
  | dic o ks vs =>
    have hp' : keyFit t1 ks = true ∧ Qz (keyIx t1 ks).isSome := by cases t1 <;> exact hp
    obtain ⟨a, vv, os', rfl, d, r⟩ := p2.dic_inv
    obtain ⟨H1, I1, g, back⟩ := dic_look I d p1 hp'.1
    cases (show u = Value.ref a from ry)
    refine d_in (by omega) I1 g rx fun s' I' => ?_
    rw [find_some d.len]
    exact ⟨.bl _, H, back s' I', rfl, k _ hp'.2⟩
  | lst o ts =>
    have hp' : shp t1 = true ∧ shp (.lst false ts) = true ∧ Qz (ts.any fun x => eqT x t1) := by cases t1 <;> exact hp
    exact op_inD hu pins s σ H _ _ v u Q I rx ry ⟨_, _, dp_shp p1 hp'.1, dp_shp (t := .lst o ts) p2 hp'.2.1, hp'.1, hp'.2.1, by rw [any_datas]; exact k _ hp'.2.2⟩
  | tup ts =>
    have hp' : shp t1 = true ∧ shp (.tup ts) = true ∧ Qz (ts.any fun x => eqT x t1) := by cases t1 <;> exact hp
    exact tupleAny hu I rx ry p1 p2 hp'.1 hp'.2.1 (k _ hp'.2.2)
  | _ => cases t1 <;> exact False.elim hp
theorem opB_nin (hu : X.A.units + 65 < cLine) : OpR X (compareOp .NotIn) (r2B X.K (rlP .nin)) := by
  intro pins s σ H x y v u Q I rx ry h
  obtain ⟨t1, t2, Z, o1, o2, Qz, zt, p1, p2, hp, k⟩ := h
  cases t2 with
  | dic o ks vs =>
    have hp' : keyFit t1 ks = true ∧ Qz (!(keyIx t1 ks).isSome) := by cases t1 <;> exact hp
    obtain ⟨a, vv, os', rfl, d, r⟩ := p2.dic_inv
    obtain ⟨H1, I1, g, back⟩ := dic_look I d p1 hp'.1
    cases (show u = Value.ref a from ry)
    refine d_notIn (by omega) I1 g rx fun s' I' => ?_
    rw [find_some d.len]
    exact ⟨.bl _, H, back s' I', rfl, k _ hp'.2⟩
  | lst o ts =>
    have hp' : shp t1 = true ∧ shp (.lst false ts) = true ∧ Qz (!ts.any fun x => eqT x t1) := by cases t1 <;> exact hp
    exact op_notInD hu pins s σ H _ _ v u Q I rx ry ⟨_, _, dp_shp p1 hp'.1, dp_shp (t := .lst o ts) p2 hp'.2.1, hp'.1, hp'.2.1, by rw [any_datas]; exact k _ hp'.2.2⟩
  | tup ts =>
    have hp' : shp t1 = true ∧ shp (.tup ts) = true ∧ Qz (!ts.any fun x => eqT x t1) := by cases t1 <;> exact hp
    exact tupleNone hu I rx ry p1 p2 hp'.1 hp'.2.1 (k _ hp'.2.2)
  | _ => cases t1 <;> exact False.elim hp
theorem opB (hu : X.A.units + 65 < cLine) : ∀ r : Rl, OpR X (compareOp (rlA r)) (r2B X.K (rlP r))
  | .eq => opB_eq (by omega) | .ne => opB_ne (by omega) | .lt => opB_lt (by omega) | .le => opB_le (by omega) | .gt => opB_gt (by omega) | .ge => opB_ge (by omega)
  | .inn => opB_inn hu | .nin => opB_nin hu | .is => opB_is | .isn => opB_isn

/-! ### items -/
theorem Reps.atI {K : PySem.W.Frag} {H : Hp} {Z : Addr → Prop} {ts : List T} {os : List Addr} {vs : List V} {i : Int} {t : T} (r : Reps K H Z ts os vs) (h : atI ts i = some t) : ∃ v o, L2.atI vs i = some v ∧ Rep K H Z t o v := by
  unfold L2.atI at h ⊢
  rw [r.length] at h
  obtain ⟨j, h1, h2⟩ := Option.bind_eq_some_iff.mp h
  obtain ⟨v, o, h3, h4, _⟩ := r.get h2
  exact ⟨v, o, by rw [h1]; exact h3, h4⟩
/-- an item by its place or key, that owns nothing -/
def rIxP (K : PySem.W.Frag) : R2 := fun x y H Q => ∃ t1 t2 z Z o1 o2, Zt H Z ∧ Rep K H Z t1 o1 x ∧ Rep K H Z t2 o2 y ∧ idxT t1 t2 = some z ∧ isF z = true ∧ ∀ w, Rep K H Z z [] w → Q w H
theorem tail_dict {value slice : Expr} {s : Shared} {o i : Value} {Q : Value → Shared → Prop} (hT : s.TypeIs o "dict") (hs : subscripted slice false o i = operate [o, i] (getItem o i)) (h : wpAny (model X.prog X.w) X.A (getItem o i) Q X.xe s) :
    wpAny (model X.prog X.w) X.A (subscriptTail value slice o i) Q X.xe s := by
  unfold subscriptTail
  refine wpAny_bind ?_
  rw [getitemInPython_of_ne hT.not_modules]
  refine wpAny_bind (wpAny_specialOf hT PySem.F.slot_dict_getitem.lookup ?_)
  have fin : wpAny (model X.prog X.w) X.A (subscripted slice false o i) (fun r s₃ => wpAny (model X.prog X.w) X.A (letTemporaryGo value o r >>= fun _ => pure r) Q X.xe s₃) X.xe s := by
    rw [hs]
    exact wpAny_operating (wpAny_mono h (fun r s₃ h₃ => wpAny_bind (wpAny_letTemporaryGo (wpAny_pure h₃))) fun _ _ x => x)
  first
    | exact wpAny_pure (wpAny_bind fin)
    | exact wpAny_bind (wpAny_pure (wpAny_bind fin))
    | exact wpAny_bind fin
theorem ixP (hu : X.A.units + 1 < cLine) : IxR X (rIxP X.K) := by
  intro value slice pins s σ H x y v u Q I rx ry h hs
  obtain ⟨t1, t2, z, Z, o1, o2, zt, p1, p2, hi, f, q⟩ := h
  have nil : ∀ {o w}, Rep X.K H Z z o w → Rep X.K H Z z [] w := fun {o w} r => by
    have := r.nil z f
    subst this; exact r
  cases t1 with
  | tup ts =>
    cases t2 with
    | int i =>
      obtain ⟨a, vs, rfl, fz, r⟩ := p1.tup_inv
      cases p2.int_inv
      obtain ⟨w, o, h1, h2⟩ := r.atI hi
      exact ix_tup value slice pins s σ H _ _ v u Q I rx ry ⟨a, vs, i, w, rfl, rfl, fz.sq, h1, q w (nil h2)⟩ hs
    | _ => simp [idxT] at hi
  | lst o ts =>
    cases t2 with
    | int i =>
      obtain ⟨a, vs, os', rfl, fz, r⟩ := p1.lst_any
      cases p2.int_inv
      obtain ⟨w, o, h1, h2⟩ := r.atI hi
      exact ix_list value slice pins s σ H _ _ v u Q I rx ry ⟨a, vs, i, w, rfl, rfl, .inl fz, h1, q w (nil h2)⟩ hs
    | _ => simp [idxT] at hi
  | str y =>
    cases t2 with
    | int i =>
      cases p1.str_inv
      cases p2.int_inv
      simp only [idxT] at hi
      split at hi
      · rename_i hz
        obtain ⟨c, h1, h2⟩ := Option.map_eq_some_iff.mp hi
        subst h2
        exact ix_str value slice pins s σ H _ _ v u Q I rx ry ⟨y, i, c, rfl, rfl, hz, h1, q _ rep_str⟩ hs
      · cases hi
    | _ => simp [idxT] at hi
  | dic o ks ts =>
    have hi' : (if keyFit t2 ks = true then (keyIx t2 ks).bind fun j => ts[j]? else none) = some z := by cases t2 <;> exact hi
    split at hi'
    · rename_i hf
      obtain ⟨a, vv, os', rfl, d, r⟩ := p1.dic_inv
      cases (show v = Value.ref a from rx)
      obtain ⟨H1, I1, g, back⟩ := dic_look I d p2 hf
      obtain ⟨j, h1, h2⟩ := Option.bind_eq_some_iff.mp hi'
      obtain ⟨w, o, h3, h4, _⟩ := r.get h2
      rw [h1] at g
      have g' : DGet H1 a y (some w) := by
        rw [← h3]; exact g
      refine tail_dict (dict_typeIs I1 g') hs (d_getItem hu I1 g' ry fun w' s3 I3 rw' => ⟨w, H, back s3 I3, rw', q w (nil h4)⟩)
    · cases hi'
  | _ => cases t2 <;> simp [idxT] at hi

/-! ### slices -/
def rSlP (K : PySem.W.Frag) : V → Option Int → Option Int → Hp → VK → Prop := fun x lo hi H Q => ∃ t Z o Qz, Zt H Z ∧ Rep K H Z t o x ∧ slP t lo hi Qz ∧ ∀ z v H' Z' os', Qz z → Nw K H Z z v H' Z' os' → Q v H'
theorem Reps.cut {K : PySem.W.Frag} {H : Hp} {Z : Addr → Prop} {ts : List T} {vs : List V} (lo hi : Option Int) (h : Reps K H Z ts [] vs) : Reps K H Z (slP.cutV' ts lo hi) [] (cutV vs lo hi) := by
  unfold slP.cutV' cutV
  rw [h.length]
  exact (h.drop _).take _
theorem slPs : SlR X (rSlP X.K) := by
  intro pins s σ H x v vl vu lo hi sl Q I rx hs pl pu h
  obtain ⟨t, Z, o, Qz, zt, p, hp, k⟩ := h
  cases t with
  | tup ts =>
    obtain ⟨f, hp⟩ := hp
    obtain ⟨a, vs, rfl, fz, r⟩ := p.tup_f f
    refine sl_tupA pins s σ H _ v vl vu lo hi sl Q I rx hs pl pu ⟨a, vs, rfl, fz.sq, fun hw => ?_, fun _ q np => ?_⟩
    · refine k _ _ _ _ _ hp (.scalar ?_ zt)
      have e : slP.cutV' ts lo hi = ts := by
        unfold slP.cutV'
        rw [r.length, hw.1, hw.2, List.drop_zero, Nat.sub_zero, ← r.length, List.take_length]
      rw [e]
      simp only [Rep]
      exact ⟨a, vs, rfl, fz, r⟩
    · exact k _ _ _ _ _ hp (.tup (r.cut lo hi) zt np)
  | lst o ts =>
    obtain ⟨f, hp⟩ := hp
    obtain ⟨a, vs, rfl, fz, r⟩ := p.lst_inv f
    exact sl_list pins s σ H _ v vl vu lo hi sl Q I rx hs pl pu ⟨a, vs, rfl, .inl fz, fun q np => k _ _ _ _ _ hp (.lst (r.cut lo hi) zt np)⟩
  | scr ns =>
    simp only [Rep] at p
    obtain ⟨_, a, rfl, fz⟩ := p
    have sq : SqL X.K H a (ns.map V.int) := by
      rcases fz with ⟨_, q⟩ | q
      · exact .inl q
      · exact .inr q
    exact sl_list pins s σ H _ v vl vu lo hi sl Q I rx hs pl pu ⟨a, _, rfl, sq, fun q np => k _ _ _ _ _ hp (.lst ((Reps.ints ns).cut lo hi) zt np)⟩
  | str z =>
    cases p.str_inv
    exact sl_str pins s σ H _ v vl vu lo hi sl Q I rx hs pl pu ⟨z, rfl, hp.1, k _ _ _ _ _ hp.2 (.scalar rep_str zt)⟩
  | _ => exact False.elim hp

/-! ### isinstance -/
def tyN : Ty → String
  | .int => "int" | .bool => "bool" | .str => "str" | .tuple => "tuple" | .list => "list"
theorem isiP (ty : Ty) {pins : List (Addr × Obj)} {s : Shared} {σ : L2.St} {H : Hp} {x : V} {us : List Value} {Q : VK} (I : Inv X pins σ H s) (rx : Vals [x, .ty (tyN ty)] us) {t : T} {Z : Addr → Prop} {o : List Addr} (p : Rep X.K H Z t o x) (q : Q (.bl (isTy ty t)) H) :
    wpAny (model X.prog X.w) X.A (call (.builtin "isinstance") us) (EP X pins σ Q) X.xe s := by
  have go : ∀ (a : String), TyX X.K H x (.type a) → kitB a (tyN ty) = some (isTy ty t) → wpAny (model X.prog X.w) X.A (call (.builtin "isinstance") us) (EP X pins σ Q) X.xe s := fun a h1 h2 =>
    call_isi pins s σ H _ us Q I rx ⟨x, .ty (tyN ty), .type a, .type (tyN ty), _, rfl, .ty _, h1, kit_ty h2, q⟩
  cases t with
  | non => cases p.non_inv; refine go "NoneType" (.base .non) ?_; cases ty <;> decide +kernel
  | bl b => cases p.bl_inv; refine go "bool" (.base (.bl b)) ?_; cases ty <;> (show _ = some _; simp only [isTy]; decide +kernel)
  | int i => cases p.int_inv; refine go "int" (.base (.int i)) ?_; cases ty <;> (show _ = some _; simp only [isTy]; decide +kernel)
  | str z => cases p.str_inv; refine go "str" (.base (.str z)) ?_; cases ty <;> (show _ = some _; simp only [isTy]; decide +kernel)
  | tup ts =>
    obtain ⟨a, vs, rfl, fz, r⟩ := p.tup_inv
    refine go "tuple" (.base (.tup fz.2)) ?_
    cases ty <;> (show _ = some _; simp only [isTy]; decide +kernel)
  | lst o ts =>
    obtain ⟨a, vs, os', rfl, fz, r⟩ := p.lst_any
    refine go "list" ?_ ?_
    · rcases fz with e | ⟨ob, e⟩
      · exact .base (.lst e)
      · exact .base (.frz e)
    · cases ty <;> (show _ = some _; simp only [isTy]; decide +kernel)
  | dic o ks ts =>
    obtain ⟨a, vv, os', rfl, d, r⟩ := p.dic_inv
    refine go "dict" ?_ ?_
    · rcases d with ⟨_, _, _, e⟩ | ⟨_, _, _, e⟩
      · exact .base (.dK e)
      · exact .base (.dT e)
    · cases ty <;> (show _ = some _; simp only [isTy]; decide +kernel)
  | scr ns =>
    simp only [Rep] at p
    obtain ⟨_, a, rfl, fz⟩ := p
    refine go "list" ?_ ?_
    · rcases fz with ⟨_, e | ⟨ob, e⟩⟩ | ⟨ob, its, n, e, c, _⟩
      · exact .base (.lst e)
      · exact .base (.frz e)
      · exact .kList e c
    · cases ty <;> (show _ = some _; simp only [isTy]; decide +kernel)
end
end PL

end
section
set_option maxHeartbeats 1000000
/-! PLe: built-ins of one value, sorted among them; methods. -/
namespace PySem.W
open PySem PySem.Calls PyProof.Rows
section
variable {prog : Program} {w : World} {A : Around} {E : Value → Shared → Prop} {s : Shared}
/-- sorted(v), v anything that can be collected -/
theorem sorted_any {l : Addr} {vs : List Value} {Q : Value → Shared → Prop} (hL : vs.length ≤ sizeLine)
    (hc : ∀ (Q' : List Value → Shared → Prop) (E' : Value → Shared → Prop), (∀ h' : Heap, (∀ b o, s.heap.get? b = some o → h'.get? b = some o) → Q' vs { s with heap := h' }) → wpAny (model prog w) A.in1 (collect (.ref l)) Q' E' s)
    (h : ∀ h' : Heap, (∀ b o, s.heap.get? b = some o → h'.get? b = some o) → ∃ κ, SortsAt prog w A.in1.in1 { s with heap := sortingHeap (h'.push (seqObj "list" vs.toArray 0)) h'.objs.size vs } κ vs ∧
      Q (.ref h'.objs.size) { s with heap := sortedHeap (h'.push (seqObj "list" vs.toArray 0)) h'.objs.size vs (sortVals κ false vs vs).toArray }) : wpAny (model prog w) A (call (.builtin "sorted") [.ref l]) Q E s := by
  refine call_function_entry_kw kind_sorted plain_sorted entry_sorted (args_sorted1 _) ?_
  unfold Builtin.«sorted»
  refine wpAny_bind (m := checkCount "sorted" 1 1 _) (wpAny_pure ?_)
  refine wpAny_bind (hc _ _ fun h' k => ?_)
  obtain ⟨κ, S, hq⟩ := h h' k
  refine wpAny_bind (wpAny_newList ?_ hL)
  have at_ : (h'.push (seqObj "list" vs.toArray 0)).get? h'.objs.size = some (seqObj "list" vs.toArray 0) := Heap.get?_push_size _ rfl
  show wpAny _ _ _ _ _ { s with heap := h'.push (seqObj "list" vs.toArray 0) }
  refine wpAny_bind (wpAny_holding (wpAny_call_entry_kw slot_list_sort ⟨_, at_, rfl⟩ entry_list_sort ?body (args_list_sort _)))
  case body =>
    show wpAny (model prog w) A.in1.in1 (Builtin.«list.sort» ⟨[.ref h'.objs.size], []⟩) _ _ _
    exact list_sort_vals (s := { s with heap := h'.push (seqObj "list" vs.toArray 0) }) at_ S hL ⟨_, rfl, wpAny_pure ⟨_, rfl, hq⟩⟩
end
end PySem.W
namespace PL
open PySem PySem.Spec L2
open PyProof.Rows hiding St
section
variable {X : Cx}
theorem each_of {pins : List (Addr × Obj)} {σ : L2.St} {H : Hp} {s : Shared} {Z : Addr → Prop} (I : Inv X pins σ H s) : ∀ {ts : List T} {vs : List V} {us : List Value}, Reps X.K H Z ts [] vs → Vals vs us → (∀ t ∈ ts, shp t = true) →
    PySem.W.EachIs (fun u t => ∃ v, RelV v u ∧ Rep X.K H Z t [] v) us ts ∧ PySem.W.EachIs (fun u t => ∃ as, Reads s.heap u (data t) as) us ts
  | [], vs, us, h, r, _ => by
    simp only [Reps] at h
    rw [h.2] at r
    cases r
    exact ⟨.nil, .nil⟩
  | t :: ts, vs, us, h, r, c => by
    simp only [Reps] at h
    obtain ⟨o1, o2, v, vs', e1, e2, r1, r2⟩ := h
    obtain ⟨rfl, rfl⟩ := List.append_eq_nil_iff.mp e1.symm
    subst e2
    cases r with
    | cons q qs =>
      obtain ⟨h1, h2⟩ := each_of I r2 qs fun t m => c t (List.mem_cons_of_mem _ m)
      obtain ⟨as, ra⟩ := Dp.reads I _ v _ (dp_shp r1 (c t List.mem_cons_self)) q
      exact ⟨.cons ⟨v, q, r1⟩ h1, .cons ⟨as, ra⟩ h2⟩
theorem of_each {K : PySem.W.Frag} {H : Hp} {Z : Addr → Prop} : ∀ {ts : List T} {us : List Value}, PySem.W.EachIs (fun u t => ∃ v, RelV v u ∧ Rep K H Z t [] v) us ts → ∃ vs, Vals vs us ∧ Reps K H Z ts [] vs
  | [], us, h => by cases h; exact ⟨[], .nil, by simp [Reps]⟩
  | t :: ts, us, h => by
    cases h with
    | cons h1 h2 =>
      obtain ⟨v, q, r⟩ := h1
      obtain ⟨vs, qs, rs⟩ := of_each h2
      refine ⟨v :: vs, .cons q qs, ?_⟩
      simp only [Reps]
      exact ⟨[], [], v, vs, rfl, rfl, r, rs⟩
theorem collect_T {pins : List (Addr × Obj)} {σ : L2.St} {H : Hp} {s : Shared} {a : Addr} {vs : List V} (I : Inv X pins σ H s) (h : SqL X.K H a vs ∨ SqT X.K H a vs) : ∃ us, Vals vs us ∧ us.length ≤ sizeLine ∧
    ∀ (A : Around) (Q' : List Value → Shared → Prop) (E' : Value → Shared → Prop), (∀ h' : Heap, (∀ b o, s.heap.get? b = some o → h'.get? b = some o) → Q' us { s with heap := h' }) → wpAny (model X.prog X.w) A (collect (.ref a)) Q' E' s := by
  rcases h with h | h
  · obtain ⟨its, rv, pl, hz⟩ := I.list h
    obtain ⟨o, ho, hc, n, hd⟩ := pl.isList
    have hl := rv.length
    refine ⟨its, rv, by omega, fun A Q' E' q => wpAny_collect_seq a (.inl rfl) ho hc hd (fun h' k => ?_) (by simp only [List.size_toArray] <;> omega)⟩
    have := q h' k
    simpa using this
  · obtain ⟨its, rv, pl, hz⟩ := I.tuple h
    obtain ⟨o, ho, hc, n, hd⟩ := pl
    have hl := rv.length
    refine ⟨its, rv, by omega, fun A Q' E' q => wpAny_collect_seq a (.inr rfl) ho hc hd (fun h' k => ?_) (by simp only [List.size_toArray] <;> omega)⟩
    have := q h' k
    simpa using this
/-- sorted(v): v a list or a tuple -/
theorem sortT (hu : X.A.units + 80 < cLine) {pins : List (Addr × Obj)} {σ : L2.St} {H : Hp} {s : Shared} {Z : Addr → Prop} {a : Addr} {vs : List V} {ts : List T} {Q : VK} (I : Inv X pins σ H s) (h : SqL X.K H a vs ∨ SqT X.K H a vs) (zt : Zt H Z)
    (r : Reps X.K H Z ts [] vs) (hs : sortable ts) (q : ∀ v H' Z' os', Nw X.K H Z (.lst true (ts.mergeSort (PySem.W.dataLe false data))) v H' Z' os' → Q v H') :
    wpAny (model X.prog X.w) X.A (call (.builtin "sorted") [.ref a]) (EP X pins σ Q) X.xe s := by
  obtain ⟨hal, hk, hsh⟩ := hs
  rw [datas_map] at hal hk
  obtain ⟨us, rv, hz, hc⟩ := collect_T I h
  refine PySem.W.sorted_any hz (hc _) fun h' k => ?_
  have hnew : (h'.push (seqObj "list" us.toArray 0)).get? h'.objs.size = some (seqObj "list" us.toArray 0) := Heap.get?_push_size _ rfl
  have old : ∀ b o, h'.get? b = some o → (PySem.W.sortingHeap (h'.push (seqObj "list" us.toArray 0)) h'.objs.size us).get? b = some o := fun b o e =>
    PySem.W.sortingHeap_old (Nat.ne_of_lt (Heap.lt_size e)) (Heap.get?_push_of_some _ e)
  -- in the heap in which it sorts
  have I1 : Inv X pins σ H { s with heap := PySem.W.sortingHeap (h'.push (seqObj "list" us.toArray 0)) h'.objs.size us } := I.kept (t' := s.toks) fun b o e => old b o (k b o e)
  obtain ⟨e1, e2⟩ := each_of I1 r rv hsh
  refine ⟨PySem.W.dataKind (PySem.W.sortingHeap (h'.push (seqObj "list" us.toArray 0)) h'.objs.size us) (ts.map data), ?_, ?_⟩
  · refine PySem.W.SortsAt.data (s := { s with heap := PySem.W.sortingHeap (h'.push (seqObj "list" us.toArray 0)) h'.objs.size us }) (PySem.W.each_map (R := fun u d => ∃ as, Reads (PySem.W.sortingHeap (h'.push (seqObj "list" us.toArray 0)) h'.objs.size us) u d as) data e2) hal hk fun d hd => ?_
    obtain ⟨t, ht, rfl⟩ := List.mem_map.mp hd
    have := SeqAt.depth_of_shaped (hsh t ht)
    show X.A.units + 1 + 1 + _ < _
    omega
  · have e3 := PySem.W.sortVals_data (h' := PySem.W.sortingHeap (h'.push (seqObj "list" us.toArray 0)) h'.objs.size us) (R := fun u t => ∃ v, RelV v u ∧ Rep X.K H Z t [] v) (enc := data) false e1 e2 hal
    obtain ⟨out, ro, rp⟩ := of_each e3
    obtain ⟨ep, hat⟩ := sortedHeap_at (out := (PySem.W.sortVals (PySem.W.dataKind (PySem.W.sortingHeap (h'.push (seqObj "list" us.toArray 0)) h'.objs.size us) (ts.map data)) false us us).toArray) hnew
    have lo : out.length ≤ sizeLine := by
      rw [← rp.length, List.length_mergeSort, r.length, rv.length]; exact hz
    have I0 : Inv X pins σ H { s with heap := h' } := I.kept (t' := s.toks) k
    refine ⟨.ref h'.objs.size, upd H h'.objs.size (.lst out), I0.laid (t' := s.toks) (fun b o e => ?_) (Nat.le_refl _) ⟨lo, _, ep, ro, hat⟩, rfl, q _ _ _ _ (.lst rp zt (I0.hok.fresh (Nat.le_refl _)))⟩
    show (sortedHeap (h'.push (seqObj "list" us.toArray 0)) h'.objs.size us _).get? b = _
    rw [sortedHeap_old (Nat.ne_of_lt (Heap.lt_size e)) (by rw [Heap.size_push]; exact Nat.lt_succ_of_lt (Heap.lt_size e))]
    exact Heap.get?_push_of_some _ e

/-! ### built-ins of one value -/
theorem intsT_vals {K : PySem.W.Frag} {H : Hp} {Z : Addr → Prop} : ∀ {ts : List T} {os : List Addr} {vs : List V} {ns : List Int}, Reps K H Z ts os vs → intsT ts = some ns → vs = ns.map V.int
  | [], _, _, ns, h, e => by
    simp only [intsT, Option.some.injEq] at e
    simp only [Reps] at h
    rw [h.2, ← e]; rfl
  | t :: ts, _, _, ns, h, e => by
    simp only [Reps] at h
    obtain ⟨o1, o2, v, vs', _, q, r1, r2⟩ := h
    cases t <;> simp only [intsT, reduceCtorEq] at e
    obtain ⟨m, e1, rfl⟩ := Option.map_eq_some_iff.mp e
    rw [q, r1.int_inv, intsT_vals r2 e1]; rfl
theorem blsT_vals {K : PySem.W.Frag} {H : Hp} {Z : Addr → Prop} : ∀ {ts : List T} {os : List Addr} {vs : List V} {ns : List Bool}, Reps K H Z ts os vs → blsT ts = some ns → vs = ns.map V.bl
  | [], _, _, ns, h, e => by
    simp only [blsT, Option.some.injEq] at e
    simp only [Reps] at h
    rw [h.2, ← e]; rfl
  | t :: ts, _, _, ns, h, e => by
    simp only [Reps] at h
    obtain ⟨o1, o2, v, vs', _, q, r1, r2⟩ := h
    cases t <;> simp only [blsT, reduceCtorEq] at e
    obtain ⟨m, e1, rfl⟩ := Option.map_eq_some_iff.mp e
    rw [q, r1.bl_inv, blsT_vals r2 e1]; rfl
def biV : Bi → Value
  | .len => .builtin "len" | .list => .type "list" | .tuple => .type "tuple" | .int => .type "int" | .sorted => .builtin "sorted" | .abs => .builtin "abs" | .sum => .builtin "sum" | .all => .builtin "all" | .any => .builtin "any" | .str => .type "str"
theorem biT (hc : X.calm = true) (hu : X.A.units + 80 < cLine) : ∀ b : Bi, CallR X (biV b) (r1T X.K (biP b)) := by
  intro b pins s σ H xs us Q I r h
  obtain ⟨x, t, Z, o, Qz, rfl, zt, p, hp, k⟩ := h
  cases b with
  | len =>
    cases t with
    | tup ts =>
      obtain ⟨a, vs, rfl, fz, rs⟩ := p.tup_inv
      exact call_len_seq pins s σ H _ us Q I r ⟨a, vs, rfl, .inr fz.sq, by rw [← rs.length]; exact k _ _ _ _ _ hp (.scalar rep_int zt)⟩
    | lst o ts =>
      obtain ⟨a, vs, os', rfl, fz, rs⟩ := p.lst_any
      exact call_len_seq pins s σ H _ us Q I r ⟨a, vs, rfl, .inl (.inl fz), by rw [← rs.length]; exact k _ _ _ _ _ hp (.scalar rep_int zt)⟩
    | str z =>
      cases p.str_inv
      exact call_len_str pins s σ H _ us Q I r ⟨z, rfl, hp.1, k _ _ _ _ _ hp.2 (.scalar rep_int zt)⟩
    | dic o ks ts =>
      obtain ⟨a, vv, os', rfl, d, rs⟩ := p.dic_inv
      have hl := d.len
      have hq := k _ _ _ _ _ hp (.scalar rep_int zt)
      rcases d with ⟨kk, h1, h2, h3⟩ | ⟨kk, h1, h2, h3⟩
      · cases r with
        | cons r1 r2 =>
          cases r2
          cases r1
          refine d_len I (.inl h3) fun tk s' I' => ⟨.int ((kk.zip vv).length : Nat), H, I', ⟨_, rfl⟩, ?_⟩
          rw [List.length_zip, h2, Nat.min_self, ← hl]
          exact hq
      · refine call_len_dT pins s σ H _ us Q I r ⟨a, _, rfl, h3, ?_⟩
        rw [List.length_zip, h2, Nat.min_self, ← hl]
        exact hq
    | _ => exact False.elim hp
  | list =>
    cases t with
    | tup ts =>
      obtain ⟨f, hq⟩ := hp
      obtain ⟨a, vs, rfl, fz, rs⟩ := p.tup_f f
      exact call_list_of pins s σ H _ us Q I r ⟨a, vs, rfl, .inr fz.sq, fun l hl => k _ _ _ _ _ hq (.lst rs zt hl)⟩
    | lst o ts =>
      obtain ⟨f, hq⟩ := hp
      obtain ⟨a, vs, rfl, fz, rs⟩ := p.lst_inv f
      exact call_list_of pins s σ H _ us Q I r ⟨a, vs, rfl, .inl (.inl fz), fun l hl => k _ _ _ _ _ hq (.lst rs zt hl)⟩
    | _ => exact False.elim hp
  | tuple =>
    cases t with
    | tup ts =>
      obtain ⟨f, hq⟩ := hp
      obtain ⟨a, vs, rfl, fz, rs⟩ := p.tup_f f
      exact call_tuple_of pins s σ H _ us Q I r ⟨a, vs, rfl, .inr ⟨fz.sq, k _ _ _ _ _ hq (.scalar (by simp only [Rep]; exact ⟨a, vs, rfl, fz, rs⟩) zt)⟩⟩
    | lst o ts =>
      obtain ⟨f, hq⟩ := hp
      obtain ⟨a, vs, rfl, fz, rs⟩ := p.lst_inv f
      exact call_tuple_of pins s σ H _ us Q I r ⟨a, vs, rfl, .inl ⟨.inl fz, fun l hl => k _ _ _ _ _ hq (.tup rs zt hl)⟩⟩
    | _ => exact False.elim hp
  | int =>
    cases t with
    | int i =>
      cases p.int_inv
      exact call_int1 pins s σ H _ us Q I r (.inl ⟨i, rfl, k _ _ _ _ _ hp (.scalar rep_int zt)⟩)
    | bl b =>
      cases p.bl_inv
      exact call_int1 pins s σ H _ us Q I r (.inr ⟨b, rfl, k _ _ _ _ _ hp (.scalar rep_int zt)⟩)
    | _ => exact False.elim hp
  | abs =>
    cases t with
    | int i =>
      cases p.int_inv
      exact call_abs pins s σ H _ us Q I r ⟨i, rfl, k _ _ _ _ _ hp (.scalar rep_int zt)⟩
    | _ => exact False.elim hp
  | str =>
    cases t with
    | int i =>
      cases p.int_inv
      exact call_str_int pins s σ H _ us Q I r ⟨i, rfl, hp.1, k _ _ _ _ _ hp.2 (.scalar rep_str zt)⟩
    | _ => exact False.elim hp
  | sum =>
    cases t with
    | lst o ts =>
      obtain ⟨ns, e, hq⟩ := hp
      obtain ⟨a, vs, os', rfl, fz, rs⟩ := p.lst_any
      have := intsT_vals rs e
      subst this
      exact cr_sum hc pins s σ H _ us Q I r ⟨a, ns, rfl, .inl fz, k _ _ _ _ _ hq (.scalar rep_int zt)⟩
    | _ => exact False.elim hp
  | all =>
    cases t with
    | lst o ts =>
      obtain ⟨ns, e, hq⟩ := hp
      obtain ⟨a, vs, os', rfl, fz, rs⟩ := p.lst_any
      have := blsT_vals rs e
      subst this
      exact cr_all hc pins s σ H _ us Q I r ⟨a, ns, rfl, .inl fz, k _ _ _ _ _ hq (.scalar rep_bl zt)⟩
    | _ => exact False.elim hp
  | any =>
    cases t with
    | lst o ts =>
      obtain ⟨ns, e, hq⟩ := hp
      obtain ⟨a, vs, os', rfl, fz, rs⟩ := p.lst_any
      have := blsT_vals rs e
      subst this
      exact cr_any hc pins s σ H _ us Q I r ⟨a, ns, rfl, .inl fz, k _ _ _ _ _ hq (.scalar rep_bl zt)⟩
    | _ => exact False.elim hp
  | sorted =>
    cases t with
    | tup ts =>
      obtain ⟨f, hs, hq⟩ := hp
      obtain ⟨a, vs, rfl, fz, rs⟩ := p.tup_f f
      cases r with
      | cons r1 r2 =>
        cases r2
        cases r1
        exact sortT hu I (.inr fz.sq) zt rs hs fun v H' Z' os' n => k _ _ _ _ _ hq n
    | lst o ts =>
      obtain ⟨f, hs, hq⟩ := hp
      obtain ⟨a, vs, rfl, fz, rs⟩ := p.lst_inv f
      cases r with
      | cons r1 r2 =>
        cases r2
        cases r1
        exact sortT hu I (.inl (.inl fz)) zt rs hs fun v H' Z' os' n => k _ _ _ _ _ hq n
    | _ => exact False.elim hp
end
end PL

end
section
set_option maxHeartbeats 1000000
/-! PLf: names, constants, displays, operators, tests, calls: the rules by plain values. -/
namespace PL
open PySem PySem.Spec L2
open PyProof.Rows hiding St

/-! ### the owners by slots -/
theorem flatten_take : ∀ {Os : List (List Addr)} {i : Nat}, (Os.getD i [] ++ (Os.set i []).flatten).Perm Os.flatten
  | [], i => by simp
  | o :: Os, 0 => by simp
  | o :: Os, i + 1 => by
    have ih := flatten_take (Os := Os) (i := i)
    rw [List.set_cons_succ, List.getD_cons_succ, List.flatten_cons, List.flatten_cons]
    refine List.Perm.trans ?_ (ih.append_left o)
    rw [← List.append_assoc, ← List.append_assoc]
    exact List.perm_append_comm.append_right _
theorem flatten_put : ∀ {Os : List (List Addr)} {i : Nat} {os : List Addr}, i < Os.length → ((Os.set i os).flatten).Perm (os ++ (Os.set i []).flatten)
  | [], i, os, h => by simp at h
  | o :: Os, 0, os, h => by simp
  | o :: Os, i + 1, os, h => by
    have ih := flatten_put (Os := Os) (i := i) (os := os) (by simpa using h)
    rw [List.set_cons_succ, List.set_cons_succ, List.flatten_cons, List.flatten_cons]
    refine (ih.append_left o).trans ?_
    rw [← List.append_assoc, ← List.append_assoc]
    exact List.perm_append_comm.append_right _
theorem flatten_drop {Os : List (List Addr)} {i : Nat} : ((Os.set i []).flatten).Sublist Os.flatten := by
  induction Os generalizing i with
  | nil => simp
  | cons o Os ih =>
    cases i with
    | zero => simp
    | succ i =>
      rw [List.set_cons_succ, List.flatten_cons, List.flatten_cons]
      exact ih.append_left o
section
variable {K : PySem.W.Frag} {H H' : Hp} {Z Z' : Addr → Prop} {Γ : Env} {Os : List (List Addr)} {σ : L2.St}
theorem getD_set_ne {Os : List (List Addr)} {i j : Nat} {o : List Addr} (h : i ≠ j) : (Os.set i o).getD j [] = Os.getD j [] := by
  rw [List.getD_eq_getElem?_getD, List.getD_eq_getElem?_getD, List.getElem?_set_ne h]
theorem getD_set_self {Os : List (List Addr)} {i : Nat} {o : List Addr} (h : i < Os.length) : (Os.set i o).getD i [] = o := by
  rw [List.getD_eq_getElem?_getD, List.getElem?_set_self h]; rfl
/-- a slot forgotten -/
theorem Ok.drop (ok : Ok K H Z Γ Os σ) (i : Nat) : Ok K H Z (Γ.set i none) (Os.set i []) σ := by
  refine ⟨by rw [List.length_set]; exact ok.ls, by rw [List.length_set, List.length_set]; exact ok.lo, fun j t h => ?_, ok.own.sublist flatten_drop, ok.zt⟩
  by_cases e : i = j
  · subst e
    by_cases hi : i < Γ.length
    · rw [List.getElem?_set_self hi] at h; cases h
    · rw [List.getElem?_eq_none (by simpa using hi)] at h; cases h
  · rw [List.getElem?_set_ne e] at h
    obtain ⟨v, h1, h2⟩ := ok.get j t h
    exact ⟨v, h1, by rw [getD_set_ne e]; exact h2⟩
/-- .. its owners out -/
theorem Ok.out (ok : Ok K H Z Γ Os σ) (i : Nat) : Own H Z (Os.getD i [] ++ (Os.set i []).flatten) := ok.own.perm flatten_take.symm
/-- a slot set -/
theorem Ok.put {i : Nat} {t : T} {os : List Addr} {v : V} (ok : Ok K H Z Γ Os σ) (hi : i < Γ.length) (r : Rep K H Z t os v) (o : Own H Z (os ++ Os.flatten)) : Ok K H Z (Γ.set i (some t)) (Os.set i os) (σ.set i (some v)) := by
  refine ⟨by rw [List.length_set, List.length_set]; exact ok.ls, by rw [List.length_set, List.length_set]; exact ok.lo, fun j t' h => ?_, ?_, ok.zt⟩
  · by_cases e : i = j
    · subst e
      rw [List.getElem?_set_self hi] at h
      cases h
      exact ⟨v, List.getElem?_set_self (by rw [ok.ls]; exact hi), by rw [getD_set_self (by rw [ok.lo]; exact hi)]; exact r⟩
    · rw [List.getElem?_set_ne e] at h
      obtain ⟨w, h1, h2⟩ := ok.get j t' h
      exact ⟨w, by rw [List.getElem?_set_ne e]; exact h1, by rw [getD_set_ne e]; exact h2⟩
  · refine (o.sublist ?_).perm (flatten_put (by rw [ok.lo]; exact hi)).symm
    exact flatten_drop.append_left os
theorem Ok.put_sub {i : Nat} {os : List Addr} (hi : i < Os.length) : ∀ a ∈ (Os.set i os).flatten, a ∈ os ++ Os.flatten := fun a m => by
  have := (flatten_put hi).mem_iff.mp m
  rcases List.mem_append.mp this with h | h
  · exact List.mem_append_left _ h
  · exact List.mem_append_right _ (flatten_drop.subset h)
/-- a slot put back: its value in the frame is the same -/
theorem Ok.back {i : Nat} {t : T} {os : List Addr} {v : V} (ok : Ok K H Z Γ Os σ) (hi : i < Γ.length) (hv : σ[i]? = some (some v)) (r : Rep K H Z t os v) (o : Own H Z (os ++ Os.flatten)) : Ok K H Z (Γ.set i (some t)) (Os.set i os) σ := by
  have := ok.put hi r o
  have e : σ.set i (some v) = σ := by
    apply List.ext_getElem?
    intro j
    by_cases h : i = j
    · subst h
      rw [List.getElem?_set_self (by rw [ok.ls]; exact hi), hv]
    · rw [List.getElem?_set_ne h]
  rw [e] at this
  exact this
theorem Ok.lt (ok : Ok K H Z Γ Os σ) {i : Nat} {t : T} (h : Γ[i]? = some (some t)) : i < Γ.length := (List.getElem?_eq_some_iff.mp h).1
/-- all of os is frozen -/
theorem Ok.frz {os : List Addr} (ok : Ok K H Z Γ Os σ) (o : Own H Z (os ++ Os.flatten)) : Ok K H (fun a => Z a ∨ a ∈ os) Γ Os σ := by
  refine ⟨ok.ls, ok.lo, fun i t h => ?_, ⟨ok.own.nd, fun a m z => ?_, ok.own.tr⟩, fun a z => ?_⟩
  · obtain ⟨v, h1, h2⟩ := ok.get i t h
    exact ⟨v, h1, h2.keep (fun a z => .inl z) (fun a u _ q => q) t fun a _ u q => q⟩
  · rcases z with z | z
    · exact ok.own.nz a m z
    · exact o.apart z m
  · rcases z with z | z
    · exact ok.zt a z
    · exact o.tr a (List.mem_append_left _ z)
theorem Res.frz {os0 : List Addr} {H0 : Hp} {Z0 : Addr → Prop} {t : T} {v : V} {os : List Addr} (r : Res K os0 H0 Z0 σ t Γ v H Z Os os) : Res K os0 H0 Z0 σ (fz t) Γ v H (fun a => Z a ∨ a ∈ os) Os [] := by
  refine ⟨r.ok.frz r.own, r.rep.fz (fun a z => .inl z) t fun a m => .inr m, ?_, ?_⟩
  · exact (r.ok.frz r.own).own
  · refine ⟨r.ext.same, fun a z => .inl (r.ext.zz a z), fun a z => ?_, fun a m => r.ext.fr a (List.mem_append_right _ m)⟩
    rcases z with z | z
    · exact r.ext.zn a z
    · exact .inr (r.ext.fr a (List.mem_append_left _ z))
theorem Res.nilF {os0 : List Addr} {H0 : Hp} {Z0 : Addr → Prop} {t : T} {v : V} {os : List Addr} (r : Res K os0 H0 Z0 σ t Γ v H Z Os os) (f : isF t = true) : os = [] := r.rep.nil t f
end

section
variable {X : Cx} {Φ : Nat → Spec}
/-! ### names, constants -/
theorem ve_cp {i : Nat} {e : Expr} (h : PE X e (tVar i)) : PE X e (tV X.K (wpE Φ (.cp i))) := h.imp fun σ H Q ⟨Γ, Z, Os, Qt, ok, w, k⟩ => by
  simp only [wpE] at w
  obtain ⟨t, h1, h2, h3⟩ := w
  obtain ⟨v, h4, h5⟩ := ok.get i t h1
  have := h5.nil t h2
  rw [this] at h5
  exact ⟨v, h4, k t Γ v H Z Os [] h3 ⟨ok, h5, ok.own, Ext.refl⟩⟩
theorem ve_take {i : Nat} {e : Expr} (h : PE X e (tVar i)) : PE X e (tV X.K (wpE Φ (.take i))) := h.imp fun σ H Q ⟨Γ, Z, Os, Qt, ok, w, k⟩ => by
  simp only [wpE] at w
  obtain ⟨t, h1, h3⟩ := w
  obtain ⟨v, h4, h5⟩ := ok.get i t h1
  exact ⟨v, h4, k t _ v H Z _ _ h3 ⟨ok.drop i, h5, ok.out i, Ext.refl.sub fun a m => flatten_take.mem_iff.mp m⟩⟩
theorem ve_c {t : T} {v : V} {e : Expr} {E : E} (h : PE X e (tC v)) (hr : ∀ H Z, Rep X.K H Z t [] v) (hw : ∀ Γ Q, wpE Φ E Γ Q → Q t Γ) : PE X e (tV X.K (wpE Φ E)) := h.imp fun σ H Q ⟨Γ, Z, Os, Qt, ok, w, k⟩ =>
  k t Γ v H Z Os [] (hw _ _ w) ⟨ok, hr H Z, ok.own, Ext.refl⟩
theorem ve_fz {e : Expr} {E : E} (h : PE X e (tV X.K (wpE Φ E))) : PE X e (tV X.K (wpE Φ (.fz E))) := h.imp fun σ H Q ⟨Γ, Z, Os, Qt, ok, w, k⟩ => by
  simp only [wpE] at w
  exact ⟨Γ, Z, Os, _, ok, w, fun t Γ' v H' Z' Os' os q r => k (fz t) Γ' v H' _ Os' [] q r.frz⟩
/-! ### lists of expressions -/
theorem va_nil : PA X [] (tA X.K (wpEs Φ .nil)) := pa_nil.imp fun σ H Q ⟨Γ, Z, Os, Qt, ok, w, k⟩ => by
  simp only [wpEs] at w
  exact k [] Γ [] H Z Os [] w ⟨ok, by simp [Reps], ok.own, Ext.refl⟩
/-- one value, then a list -/
theorem Res.cons {K : PySem.W.Frag} {σ : L2.St} {os0 : List Addr} {H H1 H2 : Hp} {Z Z1 Z2 : Addr → Prop} {t : T} {ts : List T} {Γ1 Γ2 : Env} {v : V} {vs : List V} {Os1 Os2 : List (List Addr)} {o1 o2 : List Addr}
    (r : Res K os0 H Z σ t Γ1 v H1 Z1 Os1 o1) (r2 : Ress K Os1.flatten H1 Z1 σ ts Γ2 vs H2 Z2 Os2 o2) : Ress K os0 H Z σ (t :: ts) Γ2 (v :: vs) H2 Z2 Os2 (o1 ++ o2) := by
  refine ⟨r2.ok, ?_, ?_, ?_⟩
  · simp only [Reps]
    exact ⟨o1, o2, v, vs, rfl, rfl, r.rep.ext r2.ext r.own, r2.rep⟩
  · have := r.own.frame r2.ext r2.own
    rw [List.append_assoc]; exact this
  · refine r.ext.trans ?_
    rw [List.append_assoc]
    exact r2.ext.frame o1
theorem va_cons {e : Expr} {es : List Expr} {E : E} {Es : Es} (h : PE X e (tV X.K (wpE Φ E))) (hs : PA X es (tA X.K (wpEs Φ Es))) (hst : starEach (e :: es) X.env = (false, eval e X.env) :: starEach es X.env) : PA X (e :: es) (tA X.K (wpEs Φ (.cons E Es))) :=
  (pa_cons h hs hst).imp fun σ H Q ⟨Γ, Z, Os, Qt, ok, w, k⟩ => by
    simp only [wpEs] at w
    exact ⟨Γ, Z, Os, _, ok, w, fun t Γ1 v H1 Z1 Os1 o1 q1 r1 => ⟨Γ1, Z1, Os1, _, r1.ok, q1, fun ts Γ2 vs H2 Z2 Os2 o2 q2 r2 => k _ _ _ _ _ _ _ q2 (r1.cons r2)⟩⟩
/-! ### displays -/
theorem Ress.tup {K : PySem.W.Frag} {σ : L2.St} {os0 : List Addr} {H H' : Hp} {Z Z' : Addr → Prop} {ts : List T} {Γ' : Env} {vs : List V} {Os' : List (List Addr)} {os : List Addr} (r : Ress K os0 H Z σ ts Γ' vs H' Z' Os' os) {p : Addr} (np : H' p = none) :
    Res K os0 H Z σ (.tup ts) Γ' (.ref p) (upd H' p (.tup vs)) (fun a => Z' a ∨ a = p) Os' os := by
  obtain ⟨e, z⟩ := new_fz (o := HO.tup vs) np r.ok.zt
  have ow : Own (upd H' p (.tup vs)) (fun a => Z' a ∨ a = p) (os ++ Os'.flatten) := by
    have := Own.ext0 r.own e Own.nil
    simpa using this
  refine ⟨r.ok.ext0 e z, ?_, ow, ?_⟩
  · simp only [Rep]
    exact ⟨p, vs, rfl, ⟨.inr rfl, upd_same⟩, r.rep.keep e.zz (fun a u _ q => upd_keep np a u q) ts fun a _ u q => upd_keep np a u q⟩
  · refine r.ext.trans ?_
    have := e.frame (os ++ Os'.flatten)
    rw [List.append_nil] at this
    exact this
theorem Ress.lst {K : PySem.W.Frag} {σ : L2.St} {os0 : List Addr} {H H' : Hp} {Z Z' : Addr → Prop} {ts : List T} {Γ' : Env} {vs : List V} {Os' : List (List Addr)} {os : List Addr} (r : Ress K os0 H Z σ ts Γ' vs H' Z' Os' os) {p : Addr} (np : H' p = none) :
    Res K os0 H Z σ (.lst true ts) Γ' (.ref p) (upd H' p (.lst vs)) Z' Os' (p :: os) := by
  obtain ⟨e, o⟩ := new_own (o := HO.lst vs) np r.ok.zt
  refine ⟨r.ok.ext0 e (upd_zt r.ok.zt), ?_, ?_, ?_⟩
  · simp only [Rep]
    exact ⟨p, vs, rfl, os, rfl, upd_same, r.rep.keep e.zz (fun a u _ q => upd_keep np a u q) ts fun a _ u q => upd_keep np a u q⟩
  · have := Own.ext0 r.own e o
    exact this
  · refine r.ext.trans ?_
    have := e.frame (os ++ Os'.flatten)
    rw [List.append_nil] at this
    exact this.sub fun a m => by
      rcases List.mem_cons.mp m with m | m
      · exact List.mem_append_right _ (by rw [m]; simp)
      · exact List.mem_append_left _ m
theorem ve_tup {es : List Expr} {Es : Es} {x1 : Nat} {pos : Pos} (h : PA X es (tA X.K (wpEs Φ Es))) : PE X (.Tuple es x1 pos) (tV X.K (wpE Φ (.tup Es))) := (pe_tup h).imp fun σ H Q ⟨Γ, Z, Os, Qt, ok, w, k⟩ => by
  simp only [wpE] at w
  exact ⟨Γ, Z, Os, _, ok, w, fun ts Γ' vs H' Z' Os' os q r => ⟨by rw [← r.rep.length]; exact q.1, fun p np => k _ _ _ _ _ _ _ q.2 (r.tup np)⟩⟩
theorem ve_lst {es : List Expr} {Es : Es} {pos : Pos} (h : PA X es (tA X.K (wpEs Φ Es))) : PE X (.List es pos) (tV X.K (wpE Φ (.lst Es))) := (pe_lst h).imp fun σ H Q ⟨Γ, Z, Os, Qt, ok, w, k⟩ => by
  simp only [wpE] at w
  exact ⟨Γ, Z, Os, _, ok, w, fun ts Γ' vs H' Z' Os' os q r => ⟨by rw [← r.rep.length]; exact q.1, fun p np => k _ _ _ _ _ _ _ q.2 (r.lst np)⟩⟩
theorem ve_dic0 {pos : Pos} : PE X (.Dict [] [] pos) (tV X.K (wpE Φ .dic0)) := pe_dnewK.imp fun σ H Q ⟨Γ, Z, Os, Qt, ok, w, k⟩ p np => by
  simp only [wpE] at w
  obtain ⟨e, o⟩ := new_own (o := HO.dK []) np ok.zt
  have n : Nw X.K H Z (.dic true [] []) (.ref p) (upd H p (.dK [])) Z [p] := by
    refine ⟨?_, o, e, upd_zt ok.zt⟩
    simp only [Rep]
    exact ⟨p, [], rfl, [], rfl, .inl ⟨[], trivial, rfl, upd_same⟩, by simp [Reps]⟩
  exact k _ _ _ _ _ _ _ w (n.res ok Ext.refl)
/-! ### operators -/
/-- two values by an operation -/
theorem two {K : PySem.W.Frag} {w1 w2 : ME} {r : R2} {σ : L2.St} {H : Hp} {Q : VK} {Γ : Env} {Z : Addr → Prop} {Os : List (List Addr)} {p : T → T → Env → Prop} (ok : Ok K H Z Γ Os σ) (w : w1 Γ fun x Γ1 => w2 Γ1 fun y Γ2 => p x y Γ2)
    (h : ∀ x y Γ2 v u H2 Z2 Os2 o1 o2, p x y Γ2 → Ok K H2 Z2 Γ2 Os2 σ → Rep K H2 Z2 x o1 v → Rep K H2 Z2 y o2 u → Ext Os.flatten H Z H2 Z2 Os2.flatten → r v u H2 Q) : tV K w1 σ H fun v H1 => tV K w2 σ H1 fun u H2 => r v u H2 Q :=
  ⟨Γ, Z, Os, _, ok, w, fun x Γ1 v H1 Z1 Os1 o1 q1 r1 => ⟨Γ1, Z1, Os1, _, r1.ok, q1, fun y Γ2 u H2 Z2 Os2 o2 q2 r2 =>
    h x y Γ2 v u H2 Z2 Os2 o1 o2 q2 r2.ok (r1.rep.ext r2.ext r1.own) r2.rep (r1.exto.trans r2.exto)⟩⟩
theorem ve_op {o : Op} {a b : Expr} {A B : E} {pos : Pos} (ha : PE X a (tV X.K (wpE Φ A))) (hb : PE X b (tV X.K (wpE Φ B))) : PE X (.BinOp a (opA o) b pos) (tV X.K (wpE Φ (.op o A B))) :=
  (pe_op (opT o) ha hb).imp fun σ H Q ⟨Γ, Z, Os, Qt, ok, w, k⟩ => by
    simp only [wpE] at w
    exact two ok w fun x y Γ2 v u H2 Z2 Os2 o1 o2 q ok2 r1 r2 e => ⟨x, y, Z2, o1, o2, _, ok2.zt, r1, r2, q, fun z v' H' Z' os' qz n => k _ _ _ _ _ _ _ qz (n.res ok2 e)⟩
theorem ve_neg {a : Expr} {A : E} {pos : Pos} (ha : PE X a (tV X.K (wpE Φ A))) : PE X (.UnaryOp .USub a pos) (tV X.K (wpE Φ (.neg A))) :=
  (pe_un un_neg ha).imp fun σ H Q ⟨Γ, Z, Os, Qt, ok, w, k⟩ => by
    simp only [wpE] at w
    refine ⟨Γ, Z, Os, _, ok, w, fun x Γ1 v H1 Z1 Os1 o1 q1 r1 => ?_⟩
    obtain ⟨i, rfl, q⟩ := q1
    refine ⟨i, r1.rep.int_inv, k _ _ _ _ _ _ _ q ((Nw.scalar rep_int r1.ok.zt).res r1.ok r1.exto)⟩
/-! ### operands: a name that is looked at, or a value -/
def PRes (p : P) (K : PySem.W.Frag) (os0 : List Addr) (H : Hp) (Z : Addr → Prop) (σ : L2.St) (t : T) (Γ' : Env) (v : V) (H' : Hp) (Z' : Addr → Prop) (Os' : List (List Addr)) (os : List Addr) : Prop :=
  match p with
  | .tmp _ => Res K os0 H Z σ t Γ' v H' Z' Os' os
  | .var i => os = [] ∧ Ok K H' Z' Γ' Os' σ ∧ σ[i]? = some (some v) ∧ Γ'[i]? = some (some t) ∧ Ext os0 H Z H' Z' Os'.flatten
def tP (K : PySem.W.Frag) (p : P) (w : ME) : TE := fun σ H Q => ∃ Γ Z Os Qt, Ok K H Z Γ Os σ ∧ w Γ Qt ∧
  ∀ t Γ' v H' Z' Os' os, Qt t Γ' → PRes p K Os.flatten H Z σ t Γ' v H' Z' Os' os → Q v H'
section
variable {K : PySem.W.Frag} {os0 : List Addr} {H H1 H2 : Hp} {Z Z1 Z2 : Addr → Prop} {σ : L2.St} {t x' : T} {Γ1 Γ2 : Env} {v : V} {Os1 Os2 : List (List Addr)} {os : List Addr} {p : P}
theorem PRes.ok (r : PRes p K os0 H Z σ t Γ1 v H1 Z1 Os1 os) : Ok K H1 Z1 Γ1 Os1 σ := by
  cases p with
  | tmp e => exact Res.ok r
  | var i => exact r.2.1
theorem PRes.ext (r : PRes p K os0 H Z σ t Γ1 v H1 Z1 Os1 os) : Ext os0 H Z H1 Z1 Os1.flatten := by
  cases p with
  | tmp e => exact Res.exto r
  | var i => exact r.2.2.2.2
theorem PRes.rep (r : PRes p K os0 H Z σ t Γ1 v H1 Z1 Os1 os) : ∃ o, Rep K H1 Z1 t o v := by
  cases p with
  | tmp e => exact ⟨os, Res.rep r⟩
  | var i =>
    obtain ⟨_, ok, h1, h2, _⟩ := r
    obtain ⟨w, h3, h4⟩ := ok.get i t h2
    rw [h1] at h3
    cases h3
    exact ⟨_, h4⟩
/-- .. behind further steps -/
theorem PRes.later (r : PRes p K os0 H Z σ t Γ1 v H1 Z1 Os1 os) (ok2 : Ok K H2 Z2 Γ2 Os2 σ) (e : Ext Os1.flatten H1 Z1 H2 Z2 Os2.flatten) (l : look p t Γ2 x') : ∃ o, Rep K H2 Z2 x' o v := by
  cases p with
  | tmp e' =>
    have l : x' = t := l
    subst l
    exact ⟨os, (Res.rep r).ext e (Res.own r)⟩
  | var i =>
    obtain ⟨_, ok, h1, h2, _⟩ := r
    obtain ⟨w, h3, h4⟩ := ok2.get i x' l
    rw [h1] at h3
    cases h3
    exact ⟨_, h4⟩
end
theorem vp_var {i : Nat} {e : Expr} (h : PE X e (tVar i)) : PE X e (tP X.K (.var i) (wpP Φ (.var i))) := h.imp fun σ H Q ⟨Γ, Z, Os, Qt, ok, w, k⟩ => by
  simp only [wpP] at w
  obtain ⟨t, h1, h3⟩ := w
  obtain ⟨v, h4, h5⟩ := ok.get i t h1
  exact ⟨v, h4, k t Γ v H Z Os [] h3 ⟨rfl, ok, h4, h1, Ext.refl⟩⟩
theorem vp_tmp {e : Expr} {E : E} (h : PE X e (tV X.K (wpE Φ E))) : PE X e (tP X.K (.tmp E) (wpP Φ (.tmp E))) := h.imp fun σ H Q ⟨Γ, Z, Os, Qt, ok, w, k⟩ => by
  simp only [wpP] at w
  exact ⟨Γ, Z, Os, Qt, ok, w, k⟩
/-- two operands -/
theorem twoP {K : PySem.W.Frag} {a b : P} {w1 w2 : ME} {σ : L2.St} {H : Hp} {Γ : Env} {Z : Addr → Prop} {Os : List (List Addr)} {p : T → T → Env → Prop} {R : V → V → Hp → Prop} (ok : Ok K H Z Γ Os σ) (w : w1 Γ fun x Γ1 => w2 Γ1 fun y Γ2 => ∃ x', look a x Γ2 x' ∧ p x' y Γ2)
    (h : ∀ x y Γ2 v u H2 Z2 Os2 o1 o2, p x y Γ2 → Ok K H2 Z2 Γ2 Os2 σ → Rep K H2 Z2 x o1 v → Rep K H2 Z2 y o2 u → Ext Os.flatten H Z H2 Z2 Os2.flatten → R v u H2) : tP K a w1 σ H fun v H1 => tP K b w2 σ H1 fun u H2 => R v u H2 :=
  ⟨Γ, Z, Os, _, ok, w, fun x Γ1 v H1 Z1 Os1 o1 q1 r1 => ⟨Γ1, Z1, Os1, _, r1.ok, q1, fun y Γ2 u H2 Z2 Os2 o2 q2 r2 => by
    obtain ⟨x', l, q⟩ := q2
    obtain ⟨o, s1⟩ := r1.later r2.ok r2.ext l
    obtain ⟨o', s2⟩ := r2.rep
    exact h x' y Γ2 v u H2 Z2 Os2 o o' q r2.ok s1 s2 (r1.ext.trans r2.ext)⟩⟩
theorem ve_cmp (hu : X.A.units + 65 < cLine) {r : Rl} {a b : Expr} {A B : P} {pos : Pos} (ha : PE X a (tP X.K A (wpP Φ A))) (hb : PE X b (tP X.K B (wpP Φ B))) (hm : behindInMarks (rlA r) b = false) :
    PE X (.Compare a [rlA r] [b] pos) (tV X.K (wpE Φ (.cmp r A B))) := (pe_cmpR (opB hu r) ha hb hm).imp fun σ H Q ⟨Γ, Z, Os, Qt, ok, w, k⟩ => by
  simp only [wpE] at w
  exact twoP ok w fun x y Γ2 v u H2 Z2 Os2 o1 o2 q ok2 r1 r2 e => ⟨x, y, Z2, o1, o2, _, ok2.zt, r1, r2, q, fun c qc => k _ _ _ _ _ _ _ qc ((Nw.scalar rep_bl ok2.zt).res ok2 e)⟩
theorem vt_cmp (hu : X.A.units + 65 < cLine) {r : Rl} {a b : Expr} {A B : P} {pos : Pos} (ha : PE X a (tP X.K A (wpP Φ A))) (hb : PE X b (tP X.K B (wpP Φ B))) (hm : behindInMarks (rlA r) b = false) :
    PT X (.Compare a [rlA r] [b] pos) (tQ X.K (wpC Φ (.cmp r A B))) := (pt_cmpR (opB hu r) ha hb hm).imp fun σ H Q ⟨Γ, Z, Os, Qt, ok, w, k⟩ => by
  simp only [wpC] at w
  exact twoP ok w fun x y Γ2 v u H2 Z2 Os2 o1 o2 q ok2 r1 r2 e => ⟨x, y, Z2, o1, o2, _, ok2.zt, r1, r2, q, fun c qc => ⟨c, rfl, k _ _ _ _ _ qc ok2 e⟩⟩
/-- three values in a chain -/
theorem three {r1 r2 : Rl} {w1 w2 w3 : ME} {σ : L2.St} {H : Hp} {Q : VK} {Γ : Env} {Z : Addr → Prop} {Os : List (List Addr)} {Qt : Bool → Env → Prop} (ok : Ok X.K H Z Γ Os σ)
    (w : w1 Γ fun x Γ1 => w2 Γ1 fun y Γ2 => isF y = true ∧ rlP r1 x y fun c1 => if c1 = true then w3 Γ2 fun z Γ3 => rlP r2 y z fun c2 => Qt c2 Γ3 else Qt false Γ2)
    (k : ∀ b Γ' H' Z' Os', Qt b Γ' → Ok X.K H' Z' Γ' Os' σ → Ext Os.flatten H Z H' Z' Os'.flatten → Q (.bl b) H') : tChain (r2B X.K (rlP r1)) (r2B X.K (rlP r2)) (tV X.K w1) (tV X.K w2) (tV X.K w3) σ H Q := by
  refine ⟨Γ, Z, Os, _, ok, w, fun x Γ1 v H1 Z1 Os1 o1 q1 s1 => ⟨Γ1, Z1, Os1, _, s1.ok, q1, fun y Γ2 u H2 Z2 Os2 o2 q2 s2 => ?_⟩⟩
  obtain ⟨f, q2⟩ := q2
  refine ⟨x, y, Z2, o1, o2, _, s2.ok.zt, s1.rep.ext s2.ext s1.own, s2.rep, q2, fun c1 qc => ⟨c1, rfl, ?_⟩⟩
  cases c1 with
  | false => exact k _ _ _ _ _ qc s2.ok (s1.exto.trans s2.exto)
  | true =>
    refine ⟨Γ2, Z2, Os2, _, s2.ok, qc, fun z Γ3 u3 H3 Z3 Os3 o3 q3 s3 => ?_⟩
    refine ⟨y, z, Z3, o2, o3, _, s3.ok.zt, ?_, s3.rep, q3, fun c2 qc2 => k _ _ _ _ _ qc2 s3.ok ((s1.exto.trans s2.exto).trans s3.exto)⟩
    exact s2.rep.ext s3.ext s2.own
theorem ve_chain (hu : X.A.units + 65 < cLine) {r1 r2 : Rl} {a b c : Expr} {A B C : E} {pos : Pos} (ha : PE X a (tV X.K (wpE Φ A))) (hb : PE X b (tV X.K (wpE Φ B))) (hc : PE X c (tV X.K (wpE Φ C))) (hm : lastMarks [rlA r1, rlA r2] [b, c] = false) :
    PE X (.Compare a [rlA r1, rlA r2] [b, c] pos) (tV X.K (wpE Φ (.chain r1 r2 A B C))) := (pe_chain (opB hu r1) (opB hu r2) ha hb hc hm).imp fun σ H Q ⟨Γ, Z, Os, Qt, ok, w, k⟩ => by
  simp only [wpE] at w
  exact three (Qt := fun b Γ => Qt (.bl b) Γ) ok w fun b Γ' H' Z' Os' q ok' e => k _ _ _ _ _ _ _ q ((Nw.scalar rep_bl ok'.zt).res ok' e)
theorem tChain_bl {r r' : R2} {ta tb tc : TE} {σ : L2.St} {H : Hp} {Q : Bool → Hp → Prop} (h : tChain r r' ta tb tc σ H fun v H' => ∃ k, v = .bl k ∧ Q k H') : tTest (tChain r r' ta tb tc) σ H Q := h
theorem vt_chain (hu : X.A.units + 65 < cLine) {r1 r2 : Rl} {a b c : Expr} {A B C : E} {pos : Pos} (ha : PE X a (tV X.K (wpE Φ A))) (hb : PE X b (tV X.K (wpE Φ B))) (hc : PE X c (tV X.K (wpE Φ C))) (hm : lastMarks [rlA r1, rlA r2] [b, c] = false) :
    PT X (.Compare a [rlA r1, rlA r2] [b, c] pos) (tQ X.K (wpC Φ (.chain r1 r2 A B C))) := (pt_chain (opB hu r1) (opB hu r2) ha hb hc hm).imp fun σ H Q ⟨Γ, Z, Os, Qt, ok, w, k⟩ => by
  simp only [wpC] at w
  exact tChain_bl (three (Qt := Qt) ok w fun b Γ' H' Z' Os' q ok' e => ⟨b, rfl, k _ _ _ _ _ q ok' e⟩)
/-! ### truth -/
theorem tru_of {H : Hp} {Z : Addr → Prop} {t : T} {os : List Addr} {v : V} {c : Bool} (r : Rep X.K H Z t os v) (h : tru t = some c) : TruV X.K v H c := by
  cases t <;> simp only [tru, Option.some.injEq, reduceCtorEq] at h <;> subst h
  · cases r.non_inv; rfl
  · cases r.bl_inv; rfl
  · cases r.int_inv; rfl
  · obtain ⟨a, vs, rfl, f, rs⟩ := r.tup_inv
    refine .inr (.inl ⟨vs, f.sq, ?_⟩)
    have := rs.length
    rename_i xs
    cases xs <;> cases vs <;> simp_all
  · obtain ⟨a, vs, os', rfl, f, rs⟩ := r.lst_any
    refine .inl ⟨vs, .inl f, ?_⟩
    have := rs.length
    rename_i xs
    cases xs <;> cases vs <;> simp_all
theorem ve_nott {a : Expr} {A : P} {pos : Pos} (ha : PE X a (tP X.K A (wpP Φ A))) : PE X (.UnaryOp .Not a pos) (tV X.K (wpE Φ (.nott A))) := (pe_notT ha).imp fun σ H Q ⟨Γ, Z, Os, Qt, ok, w, k⟩ => by
  simp only [wpE] at w
  refine ⟨Γ, Z, Os, _, ok, w, fun x Γ1 v H1 Z1 Os1 o1 q1 s1 => ?_⟩
  obtain ⟨c, hc, q⟩ := q1
  obtain ⟨o, r⟩ := s1.rep
  exact ⟨c, tru_of r hc, k _ _ _ _ _ _ _ q ((Nw.scalar rep_bl s1.ok.zt).res s1.ok s1.ext)⟩
theorem vt_val {a : Expr} {A : P} (ha : PE X a (tP X.K A (wpP Φ A))) (he : ∀ whole, isTrue a X.env whole = (do let v ← whole; standAt a.pos; holding [v] (truthy v))) : PT X a (tQ X.K (wpC Φ (.val A))) := (pt_truth ha he).imp fun σ H Q ⟨Γ, Z, Os, Qt, ok, w, k⟩ => by
  simp only [wpC] at w
  refine ⟨Γ, Z, Os, _, ok, w, fun x Γ1 v H1 Z1 Os1 o1 q1 s1 => ?_⟩
  obtain ⟨c, hc, q⟩ := q1
  obtain ⟨o, r⟩ := s1.rep
  exact ⟨c, tru_of r hc, k _ _ _ _ _ q s1.ok s1.ext⟩
theorem vt_not {a : Expr} {A : C} {pos : Pos} (ha : PT X a (tQ X.K (wpC Φ A))) : PT X (.UnaryOp .Not a pos) (tQ X.K (wpC Φ (.not A))) := (pt_not ha).imp fun σ H Q ⟨Γ, Z, Os, Qt, ok, w, k⟩ => by
  simp only [wpC] at w
  exact ⟨Γ, Z, Os, _, ok, w, fun c Γ1 H1 Z1 Os1 q1 ok1 e1 => k _ _ _ _ _ q1 ok1 e1⟩
/-- a chain of and, or as a test, whatever its 'whole' -/
theorem _root_.L2.PW.imp {X : Cx} {e : Expr} {t t' : TT} (h : PW X e t) (i : ∀ σ H Q, t' σ H Q → t σ H Q) : PW X e t' := ⟨fun whole pins s σ H Q I q => h.run whole pins s σ H Q I (i _ _ _ q)⟩
theorem vw_and {a b : Expr} {rest : List Expr} {A B : C} {pos : Pos} (ha : PT X a (tQ X.K (wpC Φ A))) (hb : PW X (.BoolOp .And (b :: rest) pos) (tQ X.K (wpC Φ B))) : PW X (.BoolOp .And (a :: b :: rest) pos) (tQ X.K (wpC Φ (.and A B))) := (pw_and ha hb).imp fun σ H Q ⟨Γ, Z, Os, Qt, ok, w, k⟩ => by
  simp only [wpC] at w
  refine ⟨Γ, Z, Os, _, ok, w, fun c Γ1 H1 Z1 Os1 q1 ok1 e1 => ?_⟩
  cases c with
  | false => exact k _ _ _ _ _ q1 ok1 e1
  | true => exact ⟨Γ1, Z1, Os1, _, ok1, q1, fun c2 Γ2 H2 Z2 Os2 q2 ok2 e2 => k _ _ _ _ _ q2 ok2 (e1.trans e2)⟩
theorem vw_or {a b : Expr} {rest : List Expr} {A B : C} {pos : Pos} (ha : PT X a (tQ X.K (wpC Φ A))) (hb : PW X (.BoolOp .Or (b :: rest) pos) (tQ X.K (wpC Φ B))) : PW X (.BoolOp .Or (a :: b :: rest) pos) (tQ X.K (wpC Φ (.or A B))) := (pw_or ha hb).imp fun σ H Q ⟨Γ, Z, Os, Qt, ok, w, k⟩ => by
  simp only [wpC] at w
  refine ⟨Γ, Z, Os, _, ok, w, fun c Γ1 H1 Z1 Os1 q1 ok1 e1 => ?_⟩
  cases c with
  | true => exact k _ _ _ _ _ q1 ok1 e1
  | false => exact ⟨Γ1, Z1, Os1, _, ok1, q1, fun c2 Γ2 H2 Z2 Os2 q2 ok2 e2 => k _ _ _ _ _ q2 ok2 (e1.trans e2)⟩
theorem ve_and {a b : Expr} {rest : List Expr} {A B : E} {pos : Pos} (ha : PE X a (tV X.K (wpE Φ A))) (hb : PE X (.BoolOp .And (b :: rest) pos) (tV X.K (wpE Φ B))) : PE X (.BoolOp .And (a :: b :: rest) pos) (tV X.K (wpE Φ (.and A B))) := (pe_and ha hb).imp fun σ H Q ⟨Γ, Z, Os, Qt, ok, w, k⟩ => by
  simp only [wpE] at w
  refine ⟨Γ, Z, Os, _, ok, w, fun x Γ1 v H1 Z1 Os1 o1 q1 s1 => ?_⟩
  obtain ⟨c, rfl, q⟩ := q1
  refine ⟨c, s1.rep.bl_inv, ?_⟩
  cases c with
  | false => exact k _ _ _ _ _ _ _ q ((Nw.scalar rep_bl s1.ok.zt).res s1.ok s1.exto)
  | true => exact ⟨Γ1, Z1, Os1, _, s1.ok, q, fun c2 Γ2 u H2 Z2 Os2 o2 q2 s2 => k _ _ _ _ _ _ _ q2 ⟨s2.ok, s2.rep, s2.own, s1.exto.trans s2.ext⟩⟩
theorem ve_or {a b : Expr} {rest : List Expr} {A B : E} {pos : Pos} (ha : PE X a (tV X.K (wpE Φ A))) (hb : PE X (.BoolOp .Or (b :: rest) pos) (tV X.K (wpE Φ B))) : PE X (.BoolOp .Or (a :: b :: rest) pos) (tV X.K (wpE Φ (.or A B))) := (pe_or ha hb).imp fun σ H Q ⟨Γ, Z, Os, Qt, ok, w, k⟩ => by
  simp only [wpE] at w
  refine ⟨Γ, Z, Os, _, ok, w, fun x Γ1 v H1 Z1 Os1 o1 q1 s1 => ?_⟩
  obtain ⟨c, rfl, q⟩ := q1
  refine ⟨c, s1.rep.bl_inv, ?_⟩
  cases c with
  | true => exact k _ _ _ _ _ _ _ q ((Nw.scalar rep_bl s1.ok.zt).res s1.ok s1.exto)
  | false => exact ⟨Γ1, Z1, Os1, _, s1.ok, q, fun c2 Γ2 u H2 Z2 Os2 o2 q2 s2 => k _ _ _ _ _ _ _ q2 ⟨s2.ok, s2.rep, s2.own, s1.exto.trans s2.ext⟩⟩
theorem ve_ifx {c a b : Expr} {C : C} {A B : E} {pos : Pos} (hc : PT X c (tQ X.K (wpC Φ C))) (ha : PE X a (tV X.K (wpE Φ A))) (hb : PE X b (tV X.K (wpE Φ B))) : PE X (.IfExp c a b pos) (tV X.K (wpE Φ (.ifx C A B))) := (pe_ifExp hc ha hb).imp fun σ H Q ⟨Γ, Z, Os, Qt, ok, w, k⟩ => by
  simp only [wpE] at w
  refine ⟨Γ, Z, Os, _, ok, w, fun c Γ1 H1 Z1 Os1 q1 ok1 e1 => ?_⟩
  cases c with
  | true => exact ⟨Γ1, Z1, Os1, _, ok1, q1, fun t Γ2 u H2 Z2 Os2 o2 q2 s2 => k _ _ _ _ _ _ _ q2 ⟨s2.ok, s2.rep, s2.own, e1.trans s2.ext⟩⟩
  | false => exact ⟨Γ1, Z1, Os1, _, ok1, q1, fun t Γ2 u H2 Z2 Os2 o2 q2 s2 => k _ _ _ _ _ _ _ q2 ⟨s2.ok, s2.rep, s2.own, e1.trans s2.ext⟩⟩
end
end PL

end
section
set_option maxHeartbeats 1000000
/-! PLg: subscripts, slices, built-ins, methods, calls of defs. -/
namespace PL
open PySem PySem.Spec L2
open PyProof.Rows hiding St

/-! ### arguments that aren't starred -/
def notStar : Expr → Bool
  | .Starred _ _ => false
  | _ => true
theorem star_cons {e : Expr} {es : List Expr} {env : PySem.Env} (h : notStar e = true) : starEach (e :: es) env = (false, eval e env) :: starEach es env := by
  cases e <;> first | rfl | cases h
theorem star_any {pos : Pos} : ∀ {es : List Expr} {env : PySem.Env}, es.all notStar = true → (backTo pos (starEach es env)).any (·.1) = false
  | [], _, _ => rfl
  | e :: es, env, h => by
    simp only [List.all_cons, Bool.and_eq_true] at h
    rw [star_cons h.1]
    show (false || (backTo pos (starEach es env)).any (·.1)) = false
    rw [star_any h.2]
    rfl
theorem star_one {e : Expr} {env : PySem.Env} (h : notStar e = true) : starEach [e] env = [(false, eval e env)] := by rw [star_cons h]; rfl
def plainSub : Expr → Bool
  | .Slice _ _ _ _ => false
  | _ => true
theorem plainIx {b : Expr} (h : plainSub b = true) : PlainIx b := fun o i => by
  cases b <;> first | rfl | cases h

section
variable {X : Cx} {Φ : Nat → Spec}
/-! ### subscripts, slices -/
theorem ve_idx (hu : X.A.units + 1 < cLine) {a b : Expr} {A : P} {B : E} {pos : Pos} (ha : PE X a (tP X.K A (wpP Φ A))) (hb : PE X b (tV X.K (wpE Φ B))) (hs : PlainIx b) :
    PE X (.Subscript a b pos) (tV X.K (wpE Φ (.idx A B))) := (pe_ix (ixP hu) ha (vp_tmp hb) hs).imp fun σ H Q ⟨Γ, Z, Os, Qt, ok, w, k⟩ => by
  simp only [wpE] at w
  refine twoP (p := fun x' y Γ2 => ∃ v, idxT x' y = some v ∧ isF v = true ∧ Qt v Γ2) ok (by simpa only [wpP] using w) fun x y Γ2 v u H2 Z2 Os2 o1 o2 q ok2 r1 r2 e => ?_
  obtain ⟨z, h1, h2, h3⟩ := q
  exact ⟨x, y, z, Z2, o1, o2, ok2.zt, r1, r2, h1, h2, fun w' rw' => k _ _ _ _ _ _ _ h3 ((Nw.scalar rw' ok2.zt).res ok2 e)⟩
/-- a slice's part -/
def tO (K : PySem.W.Frag) (w : Env → (Option Int → Env → Prop) → Prop) : TO := fun σ H Q => ∃ Γ Z Os Qt, Ok K H Z Γ Os σ ∧ w Γ Qt ∧
  ∀ o Γ' H' Z' Os', Qt o Γ' → Ok K H' Z' Γ' Os' σ → Ext Os.flatten H Z H' Z' Os'.flatten → Q o H'
theorem _root_.L2.PO.imp {X : Cx} {e : Option Expr} {t t' : TO} (h : PO X e t) (i : ∀ σ H Q, t' σ H Q → t σ H Q) : PO X e t' := ⟨fun pins s σ H Q I q => h.run pins s σ H Q I (i _ _ _ q)⟩
theorem vo_no : PO X none (tO X.K (wpOe Φ .no)) := po_none.imp fun σ H Q ⟨Γ, Z, Os, Qt, ok, w, k⟩ => by
  simp only [wpOe] at w
  exact k _ _ _ _ _ w ok Ext.refl
theorem vo_so {e : Expr} {E : E} (h : PE X e (tV X.K (wpE Φ E))) : PO X (some e) (tO X.K (wpOe Φ (.so E))) := (po_some h).imp fun σ H Q ⟨Γ, Z, Os, Qt, ok, w, k⟩ => by
  simp only [wpOe] at w
  refine ⟨Γ, Z, Os, _, ok, w, fun t Γ1 v H1 Z1 Os1 o1 q1 r1 => ?_⟩
  obtain ⟨i, rfl, q⟩ := q1
  exact ⟨i, r1.rep.int_inv, k _ _ _ _ _ q r1.ok r1.exto⟩
theorem ve_sl {a : Expr} {A : P} {lo hi : Option Expr} {L U : Oe} {pos p2 : Pos} (ha : PE X a (tP X.K A (wpP Φ A))) (hl : PO X lo (tO X.K (wpOe Φ L))) (hh : PO X hi (tO X.K (wpOe Φ U))) :
    PE X (.Subscript a (.Slice lo hi none p2) pos) (tV X.K (wpE Φ (.sl A L U))) := (pe_slice slPs ha hl hh).imp fun σ H Q ⟨Γ, Z, Os, Qt, ok, w, k⟩ => by
  simp only [wpE] at w
  refine ⟨Γ, Z, Os, _, ok, w, fun x Γ1 v H1 Z1 Os1 o1 q1 r1 => ⟨Γ1, Z1, Os1, _, r1.ok, q1, fun l Γ2 H2 Z2 Os2 q2 ok2 e2 => ⟨Γ2, Z2, Os2, _, ok2, q2, fun h Γ3 H3 Z3 Os3 q3 ok3 e3 => ?_⟩⟩⟩
  obtain ⟨x', lk, q⟩ := q3
  obtain ⟨o, rx⟩ := r1.later ok3 (e2.trans e3) lk
  exact ⟨x', Z3, o, _, ok3.zt, rx, q, fun z v' H' Z' os' qz n => k _ _ _ _ _ _ _ qz (n.res ok3 ((r1.ext.trans e2).trans e3))⟩
/-! ### built-ins -/
def biN : Bi → Str
  | .len => "len" | .list => "list" | .tuple => "tuple" | .int => "int" | .sorted => "sorted" | .abs => "abs" | .sum => "sum" | .all => "all" | .any => "any" | .str => "str"
theorem pe_callV {x : Str} {f : Value} {r : List V → Hp → VK → Prop} {p pos : Pos} {e : Expr} {es : List Expr} {t : TA} (hc : CallR X f r) (hg : Gl X x) (hm : X.mg x = none) (hv : bootBuiltins x = some f) (hf : (∃ id, f = .builtin id) ∨ ∃ T, f = .type T) (ha : PA X (e :: es) t)
    (hn : x ≠ "__name__") (hdb : (x == ("__debug__" : Str)) = false) (hst : (e :: es).all notStar = true) : PE X (.Call (.Name x p) (e :: es) [] pos) (tCB r t) := by
  simp only [List.all_cons, Bool.and_eq_true] at hst
  rcases hf with ⟨id, rfl⟩ | ⟨T, rfl⟩
  · exact pe_callB hc hg hm hv ha hn hdb (star_cons hst.1) (star_any hst.2)
  · exact pe_callTy hc hg hm hv ha hn hdb (star_cons hst.1) (star_any hst.2)
theorem bi_boot (b : Bi) : bootBuiltins (biN b) = some (biV b) := by cases b <;> rfl
theorem bi_kind (b : Bi) : (∃ id, biV b = .builtin id) ∨ ∃ T, biV b = .type T := by
  cases b <;> first | exact .inl ⟨_, rfl⟩ | exact .inr ⟨_, rfl⟩
theorem bi_name (b : Bi) : biN b ≠ "__name__" ∧ (biN b == ("__debug__" : Str)) = false := by cases b <;> exact ⟨by decide, by decide⟩
theorem ve_bi (hc : X.calm = true) (hu : X.A.units + 80 < cLine) {b : Bi} {e : Expr} {A : P} {p pos : Pos} (hg : Gl X (biN b)) (hm : X.mg (biN b) = none) (ha : PE X e (tP X.K A (wpP Φ A))) (hs : notStar e = true) :
    PE X (.Call (.Name (biN b) p) [e] [] pos) (tV X.K (wpE Φ (.bi b A))) :=
  (pe_callV (biT hc hu b) hg hm (bi_boot b) (bi_kind b) (pa_cons ha pa_nil (star_cons hs)) (bi_name b).1 (bi_name b).2 (by simp [hs])).imp fun σ H Q ⟨Γ, Z, Os, Qt, ok, w, k⟩ => by
    simp only [wpE] at w
    refine ⟨Γ, Z, Os, _, ok, w, fun x Γ1 v H1 Z1 Os1 o1 q1 r1 => ?_⟩
    obtain ⟨o, rx⟩ := r1.rep
    exact ⟨v, x, Z1, o, _, rfl, r1.ok.zt, rx, q1, fun z v' H' Z' os' qz n => k _ _ _ _ _ _ _ qz (n.res r1.ok r1.ext)⟩
theorem ve_isi {ty : Ty} {e : Expr} {A : P} {p p2 pos : Pos} (hg : Gl X "isinstance") (hm : X.mg "isinstance" = none) (hg2 : Gl X (Str.ofString (tyN ty))) (hm2 : X.mg (Str.ofString (tyN ty)) = none) (ha : PE X e (tP X.K A (wpP Φ A))) (hs : notStar e = true) :
    PE X (.Call (.Name "isinstance" p) [e, .Name (Str.ofString (tyN ty)) p2] [] pos) (tV X.K (wpE Φ (.isi A ty))) := by
  have hc : CallR X (.builtin "isinstance") (fun vs H Q => ∃ x t Z o, vs = [x, .ty (tyN ty)] ∧ Rep X.K H Z t o x ∧ Q (.bl (isTy ty t)) H) := fun pins s σ H xs us Q I rv h => by
    obtain ⟨x, t, Z, o, rfl, r, q⟩ := h
    exact isiP ty I rv r q
  have hn : PE X (.Name (Str.ofString (tyN ty)) p2) (tC (.ty (tyN ty))) := pe_bltn hg2 hm2 (u := .type (tyN ty)) (by cases ty <;> rfl) rfl (by cases ty <;> decide) (by cases ty <;> decide)
  refine (pe_callV hc hg hm rfl (.inl ⟨_, rfl⟩) (pa_cons ha (pa_cons hn pa_nil rfl) (star_cons hs)) (by decide) (by decide) (by show (notStar e && true) = true; rw [hs]; rfl)).imp fun σ H Q ⟨Γ, Z, Os, Qt, ok, w, k⟩ => ?_
  simp only [wpE] at w
  refine ⟨Γ, Z, Os, _, ok, w, fun x Γ1 v H1 Z1 Os1 o1 q1 r1 => ?_⟩
  obtain ⟨o, rx⟩ := r1.rep
  exact ⟨v, x, Z1, o, rfl, rx, k _ _ _ _ _ _ _ q1 ((Nw.scalar rep_bl r1.ok.zt).res r1.ok r1.ext)⟩
/-- list(range(..)) -/
theorem reps_ints {H : Hp} {Z : Addr → Prop} {α : Type} (f : α → Int) : ∀ l : List α, Reps X.K H Z (l.map fun k => T.int (f k)) [] (l.map fun k => V.int (f k))
  | [] => by simp [Reps]
  | x :: l => by
    simp only [List.map_cons, Reps]
    exact ⟨[], [], _, _, rfl, rfl, by simp [Rep], reps_ints f l⟩
theorem ve_lrg2 (hc : X.calm = true) {a b : Expr} {A B : E} {p p2 pos pos2 : Pos} (hg : Gl X "list") (hm : X.mg "list" = none) (hg2 : Gl X "range") (hm2 : X.mg "range" = none) (ha : PE X a (tV X.K (wpE Φ A))) (hb : PE X b (tV X.K (wpE Φ B))) (hs : notStar a = true ∧ notStar b = true) :
    PE X (.Call (.Name "list" p) [.Call (.Name "range" p2) [a, b] [] pos2] [] pos) (tV X.K (wpE Φ (.lrg A B))) := by
  refine (pe_listRg hc hg hm (prg_2 hg2 hm2 ha hb (star_cons hs.1) (star_cons hs.2) (star_any (by simp [hs.2]))) (star_cons rfl)).imp fun σ H Q ⟨Γ, Z, Os, Qt, ok, w, k⟩ => ?_
  simp only [wpE] at w
  refine two (r := fun v u H2 Q => ∃ i j, v = V.int i ∧ u = V.int j ∧ RgOk i j ∧ ∀ q, H2 q = none → Q (.ref q) (upd H2 q (.lst (rgV i j)))) ok w fun x y Γ2 v u H2 Z2 Os2 o1 o2 q ok2 r1 r2 e => ?_
  obtain ⟨m, n, rfl, rfl, b, q⟩ := q
  exact ⟨m, n, r1.int_inv, r2.int_inv, b, fun p np => k _ _ _ _ _ _ _ q ((Nw.lst (reps_ints (fun k : Nat => m + (k : Int)) _) ok2.zt np).res ok2 e)⟩
theorem ve_lrg1 (hc : X.calm = true) {b : Expr} {B : E} {p p2 pos pos2 : Pos} (hg : Gl X "list") (hm : X.mg "list" = none) (hg2 : Gl X "range") (hm2 : X.mg "range" = none) (hb : PE X b (tV X.K (wpE Φ B))) (hs : notStar b = true) :
    PE X (.Call (.Name "list" p) [.Call (.Name "range" p2) [b] [] pos2] [] pos) (tV X.K (wpE Φ (.lrg (.int 0) B))) := by
  refine (pe_listRg hc hg hm (prg_1 hg2 hm2 hb (star_cons hs)) (star_cons rfl)).imp fun σ H Q ⟨Γ, Z, Os, Qt, ok, w, k⟩ => ?_
  simp only [wpE] at w
  refine ⟨Γ, Z, Os, _, ok, w, fun y Γ1 v H1 Z1 Os1 o1 q1 r1 => ?_⟩
  obtain ⟨m, n, hm, rfl, b, q⟩ := q1
  cases hm
  exact ⟨n, r1.rep.int_inv, b, fun p np => k _ _ _ _ _ _ _ q ((Nw.lst (reps_ints (fun k : Nat => (0 : Int) + (k : Int)) _) r1.ok.zt np).res r1.ok r1.exto)⟩
/-- min, max of two values: ints for now -/
def mmN (mx : Bool) : Str := if mx then "max" else "min"
theorem mmT (hc : X.calm = true) (mx : Bool) : CallR X (.builtin (if mx then "max" else "min")) (fun xs H Q => ∃ i j, xs = [.int i, .int j] ∧ Q (.int (if mx then (if j > i then j else i) else (if j < i then j else i))) H) := by
  cases mx with
  | true => exact call_max2 hc
  | false => exact call_min2 hc
theorem ve_mm (hc : X.calm = true) {mx : Bool} {a b : Expr} {A B : E} {p pos : Pos} (hg : Gl X (mmN mx)) (hm : X.mg (mmN mx) = none) (ha : PE X a (tV X.K (wpE Φ A))) (hb : PE X b (tV X.K (wpE Φ B))) (hs : notStar a = true ∧ notStar b = true) :
    PE X (.Call (.Name (mmN mx) p) [a, b] [] pos) (tV X.K (wpE Φ (.mm mx A B))) := by
  refine (pe_callV (mmT hc mx) hg hm (by cases mx <;> rfl) (.inl ⟨_, rfl⟩) (pa_cons ha (pa_cons hb pa_nil (star_cons hs.2)) (star_cons hs.1)) (by cases mx <;> decide) (by cases mx <;> decide) (by simp [hs])).imp fun σ H Q ⟨Γ, Z, Os, Qt, ok, w, k⟩ => ?_
  simp only [wpE] at w
  refine two (r := fun v u H2 Q => ∃ i j, [v, u] = [V.int i, V.int j] ∧ Q (.int (if mx then (if j > i then j else i) else (if j < i then j else i))) H2) ok w fun x y Γ2 v u H2 Z2 Os2 o1 o2 q ok2 r1 r2 e => ?_
  unfold mmP at q
  obtain ⟨i, j, rfl, rfl, q⟩ := q
  exact ⟨i, j, by rw [r1.int_inv, r2.int_inv], k _ _ _ _ _ _ _ q ((Nw.scalar rep_int ok2.zt).res ok2 e)⟩
end
end PL

end
section
set_option maxHeartbeats 1000000
/-! PLh: methods; owned things that change; calls of defs. -/
namespace PL
open PySem PySem.Spec L2
open PyProof.Rows hiding St

/-! ### methods -/
def notCall0 : Expr → Bool
  | .Call _ _ _ _ => false
  | _ => true
theorem attr_base {o : Expr} {m : Str} {env : PySem.Env} {w : Sem Value} (h : notCall0 o = true) : attributeBase o m env w = w := by
  unfold attributeBase
  cases o <;> first | rfl | cases h
def lineOk (apos cpos : Pos) : Bool := apos.endLine == cpos.line
theorem few_ok {e : Expr} {es : List Expr} {cpos : Pos} {env : PySem.Env} (hs : (e :: es).all notStar = true) (hn : (e :: es).length < 29) :
    ((backTo cpos (starEach (e :: es) env)).all (fun x => !x.1) && (backToKw cpos (keywordEach [] env)).all (fun x => x.1.isSome)
      && decide ((e :: es).length + ([] : List Keyword).length + (if ([] : List Keyword).isEmpty then 0 else 1) < 30)) = true := by
  have q := star_any (pos := cpos) (env := env) hs
  have q1 : (backTo cpos (starEach (e :: es) env)).all (fun x => !x.1) = true := by
    rw [List.all_eq_true]
    intro x hx
    have := List.any_eq_false.mp q x hx
    simpa using this
  rw [q1]
  have : decide ((e :: es).length + ([] : List Keyword).length + (if ([] : List Keyword).isEmpty then 0 else 1) < 30) = true := by
    apply decide_eq_true
    simp only [List.length_nil, List.isEmpty_nil, if_true]
    omega
  rw [this]
  rfl
section
variable {X : Cx} {Φ : Nat → Spec}
theorem pe_bmV {T id : String} {r : V → List V → Hp → VK → Prop} {name : Str} {o e : Expr} {es : List Expr} {to : TE} {t : TA} {apos cpos : Pos} (pa : PlainAttrs T) (slot : Slot T name id) (hty : typeOf (.builtin id) = pure (.type "method_descriptor")) (hm : MtR X id r) (ho : PE X o to) (ha : PA X (e :: es) t)
    (hb : notCall0 o = true) (hl : lineOk apos cpos = true) (hs : (e :: es).all notStar = true) (hn : (e :: es).length < 29) : PE X (.Call (.Attribute o name apos) (e :: es) [] cpos) (tBM X.K T r to t) := by
  have hs' := hs
  simp only [List.all_cons, Bool.and_eq_true] at hs'
  exact pe_bm pa slot hty hm ho ha (attr_base hb) (few_ok hs hn) hl (star_cons hs'.1) (star_any hs'.2)
/-- d.get(k, x) -/
def rGetP (K : PySem.W.Frag) : V → List V → Hp → VK → Prop := fun x vs H Q => ∃ y z o ks ts t Z o1 o2 dv, vs = [y, z] ∧ Rep K H Z (.dic o ks ts) o1 x ∧ Rep K H Z t o2 y ∧ isFs ts = true ∧ keyFit t ks = true ∧ Rep K H Z dv [] z ∧
  ∀ w, Rep K H Z (((keyIx t ks).bind fun j => ts[j]?).getD dv) [] w → Q w H
theorem mt_getP (hu : X.A.units + 1 < cLine) : MtR X "dict.get" (rGetP X.K) := by
  intro pins s σ H x vs v us Q I rx rv h
  obtain ⟨y, z, o, ks, ts, t, Z, o1, o2, dv, rfl, p1, p2, fs, fit, p3, q⟩ := h
  obtain ⟨u1, u2, rfl, r1, r2⟩ := rv.two
  obtain ⟨a, ws, os', rfl, d, rs⟩ := p1.dic_inv
  cases rx
  have rs := rs
  rw [rs.nil _ fs] at rs
  obtain ⟨H1, I1, g, back⟩ := dic_look I d p2 fit
  refine d_get2 hu I1 g r1 r2 fun w' s' I' rw' => ⟨_, H, back s' I', rw', q _ ?_⟩
  cases e : keyIx t ks with
  | none => simpa using p3
  | some j =>
    simp only [Option.bind_some]
    cases e2 : ts[j]? with
    | none =>
      have : ws[j]? = none := by
        rw [List.getElem?_eq_none_iff] at e2 ⊢
        rw [← rs.length]; exact e2
      rw [this]
      simpa using p3
    | some t' =>
      obtain ⟨v, o, h1, h2, h3⟩ := rs.get e2
      rw [h1]
      have : o = [] := by
        cases o with
        | nil => rfl
        | cons b o => exact absurd (h3 b (by simp)) (by simp)
      subst this
      simpa using h2
theorem tyV_dic {H : Hp} {Z : Addr → Prop} {x : T} {os : List Addr} {v : V} (r : Rep X.K H Z x os v) (h : isDic x = true) : tyV X.K "dict" v H := by
  cases x <;> first | cases h | skip
  obtain ⟨a, ws, os', rfl, d, rs⟩ := r.dic_inv
  refine .inr (.inr (.inl ⟨rfl, ?_⟩))
  rcases d with ⟨kk, _, _, q⟩ | ⟨kk, _, _, q⟩
  · exact .inl ⟨_, q⟩
  · exact .inr ⟨_, q⟩
theorem tyV_lst {H : Hp} {Z : Addr → Prop} {x : T} {os : List Addr} {v : V} (r : Rep X.K H Z x os v) (h : isLst x = true) : tyV X.K "list" v H := by
  cases x <;> first | cases h | skip
  obtain ⟨a, ws, os', rfl, d, rs⟩ := r.lst_any
  exact .inl ⟨rfl, ws, .inl d⟩
theorem ve_get (hu : X.A.units + 1 < cLine) {o e f : Expr} {A : P} {B C : E} {apos cpos : Pos} (ho : PE X o (tP X.K A (wpP Φ A))) (he : PE X e (tV X.K (wpE Φ B))) (hf : PE X f (tV X.K (wpE Φ C)))
    (hb : notCall0 o = true) (hl : lineOk apos cpos = true) (hs : notStar e = true ∧ notStar f = true) : PE X (.Call (.Attribute o "get" apos) [e, f] [] cpos) (tV X.K (wpE Φ (.get A B C))) :=
  (pe_bmV PySem.F.plainAttrs_dict PySem.F.slot_dict_get PySem.F.type_dict_get (mt_getP hu) ho (pa_cons he (pa_cons hf pa_nil (star_cons hs.2)) (star_cons hs.1)) hb hl (by simp [hs]) (by simp)).imp fun σ H Q ⟨Γ, Z, Os, Qt, ok, w, k⟩ => by
    simp only [wpE] at w
    refine ⟨Γ, Z, Os, _, ok, w, fun x Γ1 v H1 Z1 Os1 o1 q1 r1 => ?_⟩
    obtain ⟨o, rx⟩ := r1.rep
    refine ⟨tyV_dic rx q1.1, Γ1, Z1, Os1, _, r1.ok, q1.2, fun y Γ2 v2 H2 Z2 Os2 o2 q2 r2 => ⟨Γ2, Z2, Os2, _, r2.ok, q2, fun z Γ3 v3 H3 Z3 Os3 o3 q3 r3 => ?_⟩⟩
    obtain ⟨x', lk, o, ks, vs, rfl, fit, fz, fs, q⟩ := q3
    obtain ⟨o', rx'⟩ := r1.later r3.ok (r2.exto.trans r3.exto) lk
    have rz := r3.rep
    rw [rz.nil _ fz] at rz
    have ry := r2.rep.ext r3.ext r2.own
    exact ⟨v2, v3, o, ks, vs, y, Z3, o', o2, z, rfl, rx', ry, fs, fit, rz, fun w' rw' => k _ _ _ _ _ _ _ q ((Nw.scalar rw' r3.ok.zt).res r3.ok ((r1.ext.trans r2.exto).trans r3.exto))⟩
/-- l.index(x) -/
theorem ve_index (hu : X.A.units + 65 < cLine) {o e : Expr} {A : P} {B : E} {apos cpos : Pos} (ho : PE X o (tP X.K A (wpP Φ A))) (he : PE X e (tV X.K (wpE Φ B)))
    (hb : notCall0 o = true) (hl : lineOk apos cpos = true) (hs : notStar e = true) : PE X (.Call (.Attribute o "index" apos) [e] [] cpos) (tV X.K (wpE Φ (.index A B))) :=
  (pe_bmV PySem.F.plainAttrs_list PySem.F.slot_list_index PySem.F.type_list_index (mt_indexD hu) ho (pa_cons he pa_nil (star_cons hs)) hb hl (by simp [hs]) (by simp)).imp fun σ H Q ⟨Γ, Z, Os, Qt, ok, w, k⟩ => by
    simp only [wpE] at w
    refine ⟨Γ, Z, Os, _, ok, w, fun x Γ1 v H1 Z1 Os1 o1 q1 r1 => ?_⟩
    obtain ⟨o, rx⟩ := r1.rep
    refine ⟨tyV_lst rx q1.1, Γ1, Z1, Os1, _, r1.ok, q1.2, fun y Γ2 v2 H2 Z2 Os2 o2 q2 r2 => ?_⟩
    obtain ⟨x', lk, o, xs, j, rfl, s1, s2, hj, q⟩ := q2
    obtain ⟨o', rx'⟩ := r1.later r2.ok r2.exto lk
    obtain ⟨a, ws, os', rfl, d, rs⟩ := rx'.lst_any
    have hd := dp_shp (X := X) rx' s1
    have hy := dp_shp (X := X) r2.rep s2
    unfold keyIx at hj
    obtain ⟨hlt, hp, hno⟩ := List.findIdx?_eq_some_iff_getElem.mp hj
    refine ⟨a, v2, data y, datas xs, j, data xs[j], rfl, rfl, hd, hy, s1, s2, ?_, hp, fun m z' hm hz => ?_, k _ _ _ _ _ _ _ q ((Nw.scalar rep_int r2.ok.zt).res r2.ok (r1.ext.trans r2.exto))⟩
    · rw [datas_map, List.getElem?_map, List.getElem?_eq_getElem hlt]; rfl
    · have hm' : m < xs.length := Nat.lt_trans hm hlt
      rw [datas_map, List.getElem?_map, List.getElem?_eq_getElem hm'] at hz
      cases hz
      have := hno m hm
      simpa [eqT] using this
end
end PL

end
section
set_option maxHeartbeats 1000000
/-! PLi: owned things that change; calls of defs. -/
namespace PL
open PySem PySem.Spec L2
open PyProof.Rows hiding St

section
variable {K : PySem.W.Frag} {H H' : Hp} {Z Z' : Addr → Prop} {Γ : Env} {Os : List (List Addr)} {σ : L2.St}
theorem getD_mem {Os : List (List Addr)} {i : Nat} {a : Addr} (h : a ∈ Os.getD i []) : a ∈ Os.flatten := flatten_take.mem_iff.mp (List.mem_append_left _ h)
/-- slots apart -/
theorem slots_apart {Os : List (List Addr)} (nd : Os.flatten.Nodup) {i j : Nat} (hij : i ≠ j) {a : Addr} (hi : a ∈ Os.getD i []) (hj : a ∈ Os.getD j []) : False := by
  have q := (flatten_take (Os := Os) (i := i)).nodup_iff.mpr nd
  have := (List.nodup_append.mp q).2.2 a hi a
  refine this (getD_mem (i := j) ?_) rfl
  rw [getD_set_ne hij]; exact hj
/-- the owned thing at a, slot i's own, is now u -/
theorem Ok.mut {i : Nat} {a : Addr} {t t' : T} {os1 os2 oy : List Addr} {u : HO} (ok : Ok K H Z Γ Os σ) (hi : Γ[i]? = some (some t)) (ho : Os.getD i [] = a :: os1) (hv : σ[i]? = some (some (.ref a)))
    (own : Own H Z (oy ++ Os.flatten)) (r : Rep K (upd H a u) Z t' (a :: os2) (.ref a)) (p : ∃ l, (a :: os2).Sublist l ∧ l.Perm (oy ++ (a :: os1))) :
    Ok K (upd H a u) Z (Γ.set i (some t')) (Os.set i (a :: os2)) σ ∧ ∀ {os0 : List Addr} {H0 : Hp} {Z0 : Addr → Prop}, Ext os0 H0 Z0 H Z (oy ++ Os.flatten) → Ext os0 H0 Z0 (upd H a u) Z (Os.set i (a :: os2)).flatten := by
  have il : i < Γ.length := ok.lt hi
  have al : a ∈ Os.getD i [] := by rw [ho]; exact List.mem_cons_self
  have am : a ∈ Os.flatten := getD_mem al
  have ne : ∀ b o, H b = some o → b ≠ a → upd H a u b = some o := fun b o q n => by rw [upd_ne n]; exact q
  obtain ⟨l, sl, pl⟩ := p
  have pm : (oy ++ (a :: os1) ++ (Os.set i []).flatten).Perm (oy ++ Os.flatten) := by
    rw [List.append_assoc]
    refine List.Perm.append_left oy ?_
    have := flatten_take (Os := Os) (i := i)
    rw [ho] at this
    exact this
  have ownL : Own H Z (l ++ (Os.set i []).flatten) := own.perm (pm.symm.trans (pl.symm.append_right _))
  have ownN : Own H Z (a :: os2 ++ (Os.set i []).flatten) := ownL.sublist (sl.append_right _)
  have ownN' : Own (upd H a u) Z (a :: os2 ++ (Os.set i []).flatten) := ⟨ownN.nd, ownN.nz, fun b m => by
    by_cases e : b = a
    · exact ⟨u, by rw [e, upd_same]⟩
    · obtain ⟨o, q⟩ := ownN.tr b m; exact ⟨o, ne b o q e⟩⟩
  have nza : ¬ Z a := ok.own.nz a am
  refine ⟨⟨by rw [List.length_set]; exact ok.ls, by rw [List.length_set, List.length_set]; exact ok.lo, fun j t0 h => ?_, ownN'.perm (flatten_put (by rw [ok.lo]; exact il)).symm, upd_zt ok.zt⟩, fun {os0 H0 Z0} e => ?_⟩
  · by_cases ej : i = j
    · subst ej
      rw [List.getElem?_set_self il] at h
      cases h
      exact ⟨_, hv, by rw [getD_set_self (by rw [ok.lo]; exact il)]; exact r⟩
    · rw [List.getElem?_set_ne ej] at h
      obtain ⟨w, h1, h2⟩ := ok.get j t0 h
      refine ⟨w, h1, ?_⟩
      rw [getD_set_ne ej]
      exact h2.keep (fun _ z => z) (fun b o z q => ne b o q fun e => nza (e ▸ z)) t0 fun b m o q => ne b o q fun e => slots_apart ok.own.nd ej al (e ▸ m)
  · have sub : ∀ b ∈ (Os.set i (a :: os2)).flatten, b ∈ oy ++ Os.flatten := fun b m => by
      have m1 := (flatten_put (os := a :: os2) (by rw [ok.lo]; exact il)).mem_iff.mp m
      have m2 : b ∈ l ++ (Os.set i []).flatten := by
        rcases List.mem_append.mp m1 with q | q
        · exact List.mem_append_left _ (sl.subset q)
        · exact List.mem_append_right _ q
      exact ((pl.append_right _).trans pm).mem_iff.mp m2
    refine Ext.sub ⟨fun b o q n => ?_, e.zz, e.zn, e.fr⟩ sub
    have q' := e.same b o q n
    refine ne b o q' fun eb => ?_
    subst eb
    rcases e.fr b (List.mem_append_right _ am) with z | z
    · exact n z
    · rw [z] at q; cases q
/-- .. what the slot holds -/
theorem Ok.lstAt {i : Nat} {xs : List T} (ok : Ok K H Z Γ Os σ) (hi : Γ[i]? = some (some (.lst true xs))) : ∃ a vs os1, σ[i]? = some (some (.ref a)) ∧ Os.getD i [] = a :: os1 ∧ H a = some (.lst vs) ∧ Reps K H Z xs os1 vs := by
  obtain ⟨v, h1, h2⟩ := ok.get i _ hi
  simp only [Rep] at h2
  obtain ⟨a, vs, rfl, os', e, f, r⟩ := h2
  exact ⟨a, vs, os', h1, e, f, r⟩
theorem Ok.dicAt {i : Nat} {ks xs : List T} (ok : Ok K H Z Γ Os σ) (hi : Γ[i]? = some (some (.dic true ks xs))) : ∃ a vs os1, σ[i]? = some (some (.ref a)) ∧ Os.getD i [] = a :: os1 ∧ DicAt (fun u => H a = some u) ks vs ∧ Reps K H Z xs os1 vs := by
  obtain ⟨v, h1, h2⟩ := ok.get i _ hi
  simp only [Rep] at h2
  obtain ⟨a, vs, rfl, os', e, f, r⟩ := h2
  exact ⟨a, vs, os', h1, e, f, r⟩
/-- what a owns stays beside the change at a -/
theorem Reps.upd {a : Addr} {xs : List T} {os : List Addr} {vs : List V} {u : HO} (r : Reps K H Z xs os vs) (nz : ¬ Z a) (na : a ∉ os) : Reps K (upd H a u) Z xs os vs :=
  r.keep (fun _ z => z) (fun b o z q => (upd_ne (show b ≠ a from fun e => nz (e ▸ z))).trans q) xs fun b m o q => (upd_ne (show b ≠ a from fun e => na (e ▸ m))).trans q
theorem Rep.upd {a : Addr} {x : T} {os : List Addr} {v : V} {u : HO} (r : Rep K H Z x os v) (nz : ¬ Z a) (na : a ∉ os) : Rep K (upd H a u) Z x os v :=
  r.keep (fun _ z => z) (fun b o z q => (upd_ne (show b ≠ a from fun e => nz (e ▸ z))).trans q) x fun b m o q => (upd_ne (show b ≠ a from fun e => na (e ▸ m))).trans q
theorem Ok.headNodup {i : Nat} {a : Addr} {os1 : List Addr} (ok : Ok K H Z Γ Os σ) (ho : Os.getD i [] = a :: os1) : a ∉ os1 ∧ ¬ Z a := by
  have q := (ok.out i)
  rw [ho] at q
  refine ⟨fun m => ?_, q.nz a (by simp)⟩
  have := q.nd
  rw [List.cons_append, List.nodup_cons] at this
  exact this.1 (List.mem_append_left _ m)
theorem Reps.dropLast : ∀ {ts : List T} {vs : List V}, Reps K H Z ts [] vs → Reps K H Z ts.dropLast [] vs.dropLast := fun {ts vs} h => by
  rw [List.dropLast_eq_take, List.dropLast_eq_take, h.length]
  exact h.take _
theorem Reps.nilOs {ts : List T} {vs : List V} {i : Nat} {t : T} (r : Reps K H Z ts [] vs) (h : ts[i]? = some t) : ∃ v, vs[i]? = some v ∧ Rep K H Z t [] v := by
  obtain ⟨v, o, h1, h2, h3⟩ := r.get h
  cases o with
  | nil => exact ⟨v, h1, h2⟩
  | cons b o => exact absurd (h3 b (by simp)) (by simp)
end

section
variable {X : Cx} {Φ : Nat → Spec}
/-- l.pop() -/
theorem ve_pop {i : Nat} {o : Expr} {apos cpos : Pos} (ho : PE X o (tVar i)) (hb : notCall0 o = true) (hl : lineOk apos cpos = true) : PE X (.Call (.Attribute o "pop" apos) [] [] cpos) (tV X.K (wpE Φ (.pop i))) :=
  (pe_bm0 PySem.F.plainAttrs_list PySem.F.slot_list_pop PySem.F.type_list_pop mt_pop ho (attr_base hb) hl).imp fun σ H Q ⟨Γ, Z, Os, Qt, ok, w, k⟩ => by
    simp only [wpE] at w
    obtain ⟨xs, y, h1, h2, h3, q⟩ := w
    obtain ⟨a, vs, os1, e1, e2, e3, r⟩ := ok.lstAt h1
    have r := r
    have n1 : os1 = [] := r.nil _ h3
    subst n1
    obtain ⟨na, nz⟩ := ok.headNodup e2
    rw [List.getLast?_eq_getElem?] at h2
    obtain ⟨v, hv, rv⟩ := r.nilOs h2
    rw [r.length] at hv
    have rep' : Rep X.K (upd H a (.lst vs.dropLast)) Z (.lst true xs.dropLast) [a] (.ref a) := by
      simp only [Rep]
      exact ⟨a, _, rfl, [], rfl, upd_same, r.dropLast.upd nz (by simp)⟩
    obtain ⟨ok', ext'⟩ := ok.mut (oy := []) (u := .lst vs.dropLast) h1 e2 e1 (by simpa using ok.own) rep' ⟨[a], List.Sublist.refl _, by simp⟩
    refine ⟨_, e1, .inl ⟨rfl, vs, .inl (.inl e3)⟩, a, vs, v, rfl, rfl, e3, hv, k y _ v _ Z _ [] q ⟨ok', rv.upd nz (by simp), by simpa using ok'.own, ?_⟩⟩
    simpa using ext' (by simpa using (Ext.refl (os := Os.flatten)))
end
end PL

end
section
set_option maxHeartbeats 1000000
/-! PLj: calls of defs: the promise of a def by plain values; arguments that are lent. -/
namespace PL
open PySem PySem.Spec L2
open PyProof.Rows hiding St

def maskOf : Es → List Bool
  | .nil => []
  | .cons _ es => false :: maskOf es
  | .lend _ es => true :: maskOf es
/-- the arguments that aren't lent own nothing -/
def argsM : List Bool → List T → Bool
  | false :: m, t :: ts => isF t && argsM m ts
  | true :: m, _ :: ts => argsM m ts
  | _, _ => true
theorem argsF_M : ∀ (es : Es) (ts : List T), argsF es ts = argsM (maskOf es) ts
  | .nil, ts => by cases ts <;> rfl
  | .cons e es, [] => rfl
  | .cons e es, t :: ts => by simp only [argsF, maskOf, argsM]; rw [argsF_M es ts]
  | .lend i es, [] => rfl
  | .lend i es, t :: ts => by simp only [argsF, maskOf, argsM]; rw [argsF_M es ts]
/-- the lent ones of a list -/
def lnt {α : Type} : List Bool → List α → List α
  | true :: m, x :: xs => x :: lnt m xs
  | false :: m, _ :: xs => lnt m xs
  | _, _ => []
section
variable (K : PySem.W.Frag) (H : Hp) (Z : Addr → Prop)
def RepsO : List T → List (List Addr) → List V → Prop
  | [], [], [] => True
  | t :: ts, o :: os, v :: vs => Rep K H Z t o v ∧ RepsO ts os vs
  | _, _, _ => False
end
/-- a def's promise: mask m (lent parameters), what it is asked for -/
def spT (K : PySem.W.Frag) (m : List Bool) (φ : Spec) : Sp := fun vs H Q _ => vs.length = m.length ∧ ∃ ts Oss Z Qt, RepsO K H Z ts Oss vs ∧ argsM m ts = true ∧ Own H Z Oss.flatten ∧ Zt H Z ∧ φ ts Qt ∧
  ∀ t io v H' Z' os Oio, Qt t io → Rep K H' Z' t os v → RepsO K H' Z' io Oio (lnt m vs) → Own H' Z' (os ++ Oio.flatten) → Ext Oss.flatten H Z H' Z' (os ++ Oio.flatten) → Zt H' Z' → Q v H'
section
variable {K : PySem.W.Frag} {H H' : Hp} {Z Z' : Addr → Prop} {σ : L2.St}
theorem Reps.toO : ∀ {ts : List T} {os : List Addr} {vs : List V}, Reps K H Z ts os vs → ∃ Oss, RepsO K H Z ts Oss vs ∧ Oss.flatten = os
  | [], os, vs, h => by
    simp only [Reps] at h
    obtain ⟨rfl, rfl⟩ := h
    exact ⟨[], trivial, rfl⟩
  | t :: ts, os, vs, h => by
    simp only [Reps] at h
    obtain ⟨o1, o2, v, vs', rfl, rfl, r1, r2⟩ := h
    obtain ⟨Oss, q, e⟩ := r2.toO
    exact ⟨o1 :: Oss, ⟨r1, q⟩, by rw [List.flatten_cons, e]⟩
theorem RepsO.len : ∀ {ts : List T} {Oss : List (List Addr)} {vs : List V}, RepsO K H Z ts Oss vs → ts.length = vs.length ∧ Oss.length = vs.length
  | [], [], [], _ => ⟨rfl, rfl⟩
  | t :: ts, o :: os, v :: vs, h => by
    obtain ⟨h1, h2⟩ := RepsO.len h.2
    exact ⟨by simp [h1], by simp [h2]⟩
  | [], [], _ :: _, h => h.elim
  | [], _ :: _, _, h => h.elim
  | _ :: _, [], _, h => h.elim
  | _ :: _, _ :: _, [], h => h.elim
/-- the values at the lent places are those of the frame -/
def Lnt (σ : L2.St) : Es → List V → Prop
  | .nil, _ => True
  | .cons _ es, vs => Lnt σ es vs.tail
  | .lend i es, vs => (∃ v, vs.head? = some v ∧ σ[i]? = some (some v)) ∧ Lnt σ es vs.tail
/-- the list of arguments' reading -/
def tL (K : PySem.W.Frag) (es : Es) (w : MA) : TA := fun σ H Q => ∃ Γ Z Os Qt, Ok K H Z Γ Os σ ∧ w Γ Qt ∧
  ∀ ts Γ' vs H' Z' Os' os, Qt ts Γ' → Ress K Os.flatten H Z σ ts Γ' vs H' Z' Os' os → Lnt σ es vs → vs.length = (maskOf es).length → Γ'.length = Γ.length → Q vs H'
end
section
variable {X : Cx} {Φ : Nat → Spec}
theorem vl_nil : PA X [] (tL X.K .nil (wpEs Φ .nil)) := pa_nil.imp fun σ H Q ⟨Γ, Z, Os, Qt, ok, w, k⟩ => by
  simp only [wpEs] at w
  exact k [] Γ [] H Z Os [] w ⟨ok, by simp [Reps], ok.own, Ext.refl⟩ trivial rfl rfl
theorem Ok.len {K : PySem.W.Frag} {H H' : Hp} {Z Z' : Addr → Prop} {Γ Γ' : Env} {Os Os' : List (List Addr)} {σ : L2.St} (a : Ok K H Z Γ Os σ) (b : Ok K H' Z' Γ' Os' σ) : Γ'.length = Γ.length := by
  rw [← a.ls, ← b.ls]
theorem vl_cons {e : Expr} {es : List Expr} {E : E} {Es : Es} (h : PE X e (tV X.K (wpE Φ E))) (hs : PA X es (tL X.K Es (wpEs Φ Es))) (hst : starEach (e :: es) X.env = (false, eval e X.env) :: starEach es X.env) : PA X (e :: es) (tL X.K (.cons E Es) (wpEs Φ (.cons E Es))) :=
  (pa_cons h hs hst).imp fun σ H Q ⟨Γ, Z, Os, Qt, ok, w, k⟩ => by
    simp only [wpEs] at w
    exact ⟨Γ, Z, Os, _, ok, w, fun t Γ1 v H1 Z1 Os1 o1 q1 r1 => ⟨Γ1, Z1, Os1, _, r1.ok, q1, fun ts Γ2 vs H2 Z2 Os2 o2 q2 r2 l le _ => k _ _ _ _ _ _ _ q2 (r1.cons r2) l (by simp [maskOf, le]) (ok.len r2.ok)⟩⟩
theorem vl_lend {i : Nat} {e : Expr} {es : List Expr} {Es : Es} (h : PE X e (tVar i)) (hs : PA X es (tL X.K Es (wpEs Φ Es))) (hst : starEach (e :: es) X.env = (false, eval e X.env) :: starEach es X.env) : PA X (e :: es) (tL X.K (.lend i Es) (wpEs Φ (.lend i Es))) :=
  (pa_cons h hs hst).imp fun σ H Q ⟨Γ, Z, Os, Qt, ok, w, k⟩ => by
    simp only [wpEs] at w
    obtain ⟨t, h1, w⟩ := w
    obtain ⟨v, h4, h5⟩ := ok.get i t h1
    have r1 : Res X.K Os.flatten H Z σ t (Γ.set i none) v H Z (Os.set i []) (Os.getD i []) := ⟨ok.drop i, h5, ok.out i, Ext.refl.sub fun a m => flatten_take.mem_iff.mp m⟩
    exact ⟨v, h4, _, Z, _, _, r1.ok, w, fun ts Γ2 vs H2 Z2 Os2 o2 q2 r2 l le _ => k _ _ _ _ _ _ _ q2 (r1.cons r2) ⟨⟨v, rfl, h4⟩, l⟩ (by simp [maskOf, le]) (ok.len r2.ok)⟩
theorem vl_va {es : List Expr} {Es : Es} (h : PA X es (tL X.K Es (wpEs Φ Es))) : PA X es (tA X.K (wpEs Φ Es)) := h.imp fun σ H Q ⟨Γ, Z, Os, Qt, ok, w, k⟩ =>
  ⟨Γ, Z, Os, Qt, ok, w, fun ts Γ' vs H' Z' Os' os q r _ _ _ => k _ _ _ _ _ _ _ q r⟩
/-- what is beside a call stays -/
theorem Ok.beside {K : PySem.W.Frag} {H H' : Hp} {Z Z' : Addr → Prop} {Γ : Env} {Os : List (List Addr)} {σ : L2.St} {os os' : List Addr} (ok : Ok K H Z Γ Os σ) (own : Own H Z (os ++ Os.flatten)) (e : Ext os H Z H' Z' os') (o' : Own H' Z' os') (zt : Zt H' Z') :
    Ok K H' Z' Γ Os σ ∧ Own H' Z' (os' ++ Os.flatten) := by
  have own1 : Own H Z (Os.flatten ++ os) := own.perm List.perm_append_comm
  have own2 := (own1.frame e o').perm List.perm_append_comm
  refine ⟨⟨ok.ls, ok.lo, fun i t h => ?_, own2.right, zt⟩, own2⟩
  obtain ⟨v, h1, h2⟩ := ok.get i t h
  refine ⟨v, h1, h2.keep e.zz (e.keepZ own.left) t fun a m u q => e.same a u q fun n => ?_⟩
  exact own1.apart (getD_mem m) n
/-- the lent ones back in their slots -/
theorem Ok.backs {K : PySem.W.Frag} {H : Hp} {Z : Addr → Prop} {σ : L2.St} : ∀ (es : Es) {vs : List V} {io : List T} {Oio : List (List Addr)} {Γ : Env} {Os : List (List Addr)} {os : List Addr}, Ok K H Z Γ Os σ → Lnt σ es vs → vs.length = (maskOf es).length → RepsO K H Z io Oio (lnt (maskOf es) vs) →
    Own H Z (os ++ (Oio.flatten ++ Os.flatten)) → ∃ Os', Ok K H Z (lentBack (lends es) io Γ) Os' σ ∧ Own H Z (os ++ Os'.flatten) ∧ ∀ a ∈ Os'.flatten, a ∈ Oio.flatten ++ Os.flatten
  | .nil, vs, io, Oio, Γ, Os, os, ok, _, hl, r, own => by
    refine ⟨Os, by cases io <;> exact ok, own.sublist ((List.sublist_append_right _ _).append_left os), fun a m => List.mem_append_right _ m⟩
  | .cons e es, [], io, Oio, Γ, Os, os, ok, l, hl, r, own => by simp [maskOf] at hl
  | .cons e es, v :: vs, io, Oio, Γ, Os, os, ok, l, hl, r, own => Ok.backs es (vs := vs) ok l (by simpa [maskOf] using hl) r own
  | .lend i es, [], io, Oio, Γ, Os, os, ok, l, hl, r, own => by simp [maskOf] at hl
  | .lend i es, v :: vs, [], Oio, Γ, Os, os, ok, l, hl, r, own => by cases Oio <;> exact r.elim
  | .lend i es, v :: vs, t :: io, [], Γ, Os, os, ok, l, hl, r, own => r.elim
  | .lend i es, v :: vs, t :: io, o :: Oio, Γ, Os, os, ok, l, hl, r, own => by
    obtain ⟨⟨v', e1, e2⟩, l⟩ := l
    cases e1
    have hi : i < Γ.length := by
      rw [← ok.ls]
      exact (List.getElem?_eq_some_iff.mp e2).1
    rw [List.flatten_cons] at own
    have p1 : (os ++ (o ++ Oio.flatten ++ Os.flatten)).Perm ((os ++ Oio.flatten) ++ (o ++ Os.flatten)) := by
      rw [List.append_assoc, List.append_assoc]
      refine List.Perm.append_left os ?_
      rw [← List.append_assoc, ← List.append_assoc]
      exact List.perm_append_comm.append_right _
    have own1 := own.perm p1
    have ok1 := ok.back hi e2 r.1 own1.right
    have own2 : Own H Z (os ++ (Oio.flatten ++ (Os.set i o).flatten)) := by
      have p2 : ((os ++ Oio.flatten) ++ (Os.set i o).flatten).Perm ((os ++ Oio.flatten) ++ (o ++ (Os.set i []).flatten)) := (flatten_put (by rw [ok.lo]; exact hi)).append_left _
      have := (own1.sublist ((flatten_drop.append_left o).append_left (os ++ Oio.flatten))).perm p2.symm
      rw [List.append_assoc] at this
      exact this
    obtain ⟨Os', a, b, c⟩ := Ok.backs es (vs := vs) ok1 l (by simpa [maskOf] using hl) r.2 own2
    refine ⟨Os', a, b, fun x m => ?_⟩
    rcases List.mem_append.mp (c x m) with q | q
    · rw [List.flatten_cons]; exact List.mem_append_left _ (List.mem_append_right _ q)
    · rcases List.mem_append.mp (Ok.put_sub (by rw [ok.lo]; exact hi) x q) with z | z
      · rw [List.flatten_cons]; exact List.mem_append_left _ (List.mem_append_left _ z)
      · exact List.mem_append_right _ z
theorem call_imp {f : Nat} {Es : Es} {K : PySem.W.Frag} (E0 : XK) : ∀ σ H Q, tV K (wpE Φ (.call f Es)) σ H Q → tL K Es (wpEs Φ Es) σ H fun vs H1 => spT K (maskOf Es) (Φ f) vs H1 Q E0 := fun σ H Q ⟨Γ, Z, Os, Qt, ok, w, k⟩ => by
  simp only [wpE] at w
  refine ⟨Γ, Z, Os, _, ok, w, fun ts Γ1 vs H1 Z1 Os1 os q r l le _ => ?_⟩
  obtain ⟨af, q⟩ := q
  obtain ⟨Oss, rO, eO⟩ := r.rep.toO
  refine ⟨le, ts, Oss, Z1, _, rO, by rw [← argsF_M]; exact af, by rw [eO]; exact r.own.left, r.ok.zt, q, fun t io v H' Z' os' Oio qt rt rio own' ext' zt' => ?_⟩
  rw [eO] at ext'
  obtain ⟨ok2, own2⟩ := r.ok.beside r.own ext' own' zt'
  rw [List.append_assoc] at own2
  obtain ⟨Os', a, b, c⟩ := Ok.backs Es ok2 l le rio own2
  refine k _ _ _ _ _ _ _ qt.2 ⟨a, rt, b, ?_⟩
  have e1 : Ext (Os1.flatten ++ os) H1 Z1 H' Z' (Os1.flatten ++ (os' ++ Oio.flatten)) := ext'.frame Os1.flatten
  refine (r.ext.trans (e1.wide (os1 := os ++ Os1.flatten) fun x m => ?_)).sub fun x m => ?_
  · rcases List.mem_append.mp m with q | q
    · exact List.mem_append_right _ q
    · exact List.mem_append_left _ q
  · rcases List.mem_append.mp m with q | q
    · exact List.mem_append_right _ (List.mem_append_left _ q)
    · rcases List.mem_append.mp (c x q) with q | q
      · exact List.mem_append_right _ (List.mem_append_right _ q)
      · exact List.mem_append_left _ q
/-- a def that may be called: its name, mask -/
structure FnAt (X : Cx) (x : Str) (m : List Bool) (φ : Spec) : Prop where
  ex : ∃ (k : Nat) (f : Addr) (fd : FuncData) (ps : List Str), FnOk X.prog X.w X.K X.mg X.base CX0 k f fd ps (spT X.K m φ) ∧ Room k X.A ∧ X.mg x = some (.ref f) ∧ PySem.W.keepIn X.K (.ref f) = true ∧ Binds X.K fd ps []
theorem ve_call {f : Nat} {x : Str} {e : Expr} {es : List Expr} {Es : Es} {p pos : Pos} (F : FnAt X x (maskOf Es) (Φ f)) (hg : Gl X x) (hdb : (x == ("__debug__" : Str)) = false) (ha : PA X (e :: es) (tL X.K Es (wpEs Φ Es))) (hs : (e :: es).all notStar = true) :
    PE X (.Call (.Name x p) (e :: es) [] pos) (tV X.K (wpE Φ (.call f Es))) := by
  obtain ⟨k, fa, fd, ps, F, hr, hm, hk, hb⟩ := F.ex
  simp only [List.all_cons, Bool.and_eq_true] at hs
  refine (pe_call (E := E0) (dvs := []) F hr hg hm hk hb .nil pass0 ha hdb (star_cons hs.1) (star_any hs.2)).imp fun σ H Q h => ?_
  have := call_imp E0 σ H Q h
  show tL X.K Es (wpEs Φ Es) σ H fun vs H1 => spT X.K (maskOf Es) (Φ f) (vs ++ []) H1 Q E0
  simpa only [List.append_nil] using this
theorem ve_call0 {f : Nat} {x : Str} {p pos : Pos} (F : FnAt X x [] (Φ f)) (hg : Gl X x) (hdb : (x == ("__debug__" : Str)) = false) : PE X (.Call (.Name x p) [] [] pos) (tV X.K (wpE Φ (.call f .nil))) := by
  obtain ⟨k, fa, fd, ps, F, hr, hm, hk, hb⟩ := F.ex
  refine (pe_call0 (E := E0) (dvs := []) F hr hg hm hk hb .nil pass0 hdb).imp fun σ H Q h => ?_
  obtain ⟨Γ, Z, Os, Qt, ok, w, k⟩ := call_imp E0 σ H Q h
  simp only [wpEs] at w
  exact k [] Γ [] H Z Os [] w ⟨ok, by simp [Reps], ok.own, Ext.refl⟩ trivial rfl rfl
end
end PL

end
section
set_option maxHeartbeats 1000000
/-! PLk: targets; what a loop goes through; list comprehensions. -/
namespace PL
open PySem PySem.Spec L2
open PyProof.Rows hiding St

/-! ### targets -/
mutual
def gN : G → List Nat
  | .nm i => [i]
  | .tp gs => gNs gs
def gNs : List G → List Nat
  | [] => []
  | g :: gs => gN g ++ gNs gs
end
/-- only these slots of the frame changed -/
def Keep (is : List Nat) (σ σ2 : L2.St) : Prop := ∀ i, i ∉ is → σ2[i]? = σ[i]?
theorem Keep.refl {is : List Nat} {σ : L2.St} : Keep is σ σ := fun _ _ => rfl
theorem Keep.trans {is js : List Nat} {σ σ1 σ2 : L2.St} (h : Keep is σ σ1) (k : Keep js σ1 σ2) : Keep (is ++ js) σ σ2 := fun i n =>
  (k i fun m => n (List.mem_append_right _ m)).trans (h i fun m => n (List.mem_append_left _ m))
def tGT (K : PySem.W.Frag) (g : G) : TG := fun v σ H Q => ∃ Γ Z Os t os Γ2, Ok K H Z Γ Os σ ∧ Rep K H Z t os v ∧ Own H Z (os ++ Os.flatten) ∧ bindG g t Γ = some Γ2 ∧
  ∀ σ2 Os2, Ok K H Z Γ2 Os2 σ2 → (∀ a ∈ Os2.flatten, a ∈ os ++ Os.flatten) → Keep (gN g) σ σ2 → Q σ2 H
def tGTs (K : PySem.W.Frag) (gs : List G) : TGs := fun vs σ H Q => ∃ Γ Z Os ts os Γ2, Ok K H Z Γ Os σ ∧ Reps K H Z ts os vs ∧ Own H Z (os ++ Os.flatten) ∧ bindGs gs ts Γ = some Γ2 ∧
  ∀ σ2 Os2, Ok K H Z Γ2 Os2 σ2 → (∀ a ∈ Os2.flatten, a ∈ os ++ Os.flatten) → Keep (gNs gs) σ σ2 → Q σ2 H
theorem _root_.L2.PG.imp {X : Cx} {e : Expr} {t t' : TG} (h : PG X e t) (i : ∀ v σ H Q, t' v σ H Q → t v σ H Q) : PG X e t' := ⟨fun pins s σ H v u Q I r q => h.run pins s σ H v u Q I r (i _ _ _ _ q)⟩
theorem _root_.L2.PGs.imp {X : Cx} {e : List Expr} {t t' : TGs} (h : PGs X e t) (i : ∀ v σ H Q, t' v σ H Q → t v σ H Q) : PGs X e t' := ⟨fun pins s σ H v u Q I r q => h.run pins s σ H v u Q I r (i _ _ _ _ q)⟩
theorem assign_len : ∀ (es : List Expr) (env : PySem.Env), (assignEach es env).length = es.length
  | [], _ => rfl
  | e :: es, env => by
    have := assign_len es env
    cases e <;> simp [assignEach, this]
theorem assign_cons {e : Expr} {es : List Expr} {env : PySem.Env} (h : notStar e = true) : assignEach (e :: es) env = (false, assign e env) :: assignEach es env := by
  cases e <;> first | rfl | cases h
theorem assign_find : ∀ (es : List Expr) (env : PySem.Env), es.all notStar = true → (assignEach es env).findIdx? (·.1) = none
  | [], _, _ => rfl
  | e :: es, env, h => by
    simp only [List.all_cons, Bool.and_eq_true] at h
    rw [assign_cons h.1, List.findIdx?_cons]
    simp [assign_find es env h.2]
section
variable {X : Cx}
theorem vg_nm {i : Nat} {x : Str} {pos : Pos} (hN : X.N.Nodup) (hi : X.N[i]? = some x) (hx : Loc X.env.scope x) (hf : X.fn x = true ∨ X.env.scope.names.lookup x = some .local) : PG X (.Name x pos) (tGT X.K (.nm i)) :=
  (pg_name hN hi hx hf).imp fun v σ H Q ⟨Γ, Z, Os, t, os, Γ2, ok, r, o, b, k⟩ => by
    simp only [bindG] at b
    split at b
    · rename_i hl
      cases b
      refine k _ _ (ok.put hl r o) (Ok.put_sub (by rw [ok.lo]; exact hl)) fun j n => ?_
      simp only [gN, List.mem_singleton] at n
      exact List.getElem?_set_ne (Ne.symm n)
    · cases b
theorem vgs_nil : PGs X [] (tGTs X.K []) := pgs_nil.imp fun vs σ H Q ⟨Γ, Z, Os, ts, os, Γ2, ok, r, o, b, k⟩ => by
  cases ts with
  | cons t ts => simp [bindGs] at b
  | nil =>
    simp only [bindGs] at b
    cases b
    simp only [Reps] at r
    exact ⟨r.2, k _ _ ok (fun a m => List.mem_append_right _ m) Keep.refl⟩
theorem vgs_cons {e : Expr} {es : List Expr} {g : G} {gs : List G} (h1 : PG X e (tGT X.K g)) (h2 : PGs X es (tGTs X.K gs)) (hs : notStar e = true) : PGs X (e :: es) (tGTs X.K (g :: gs)) :=
  (pgs_cons h1 h2 (by rw [assign_cons hs]; rfl)).imp fun vs σ H Q ⟨Γ, Z, Os, ts, os, Γ2, ok, r, o, b, k⟩ => by
    cases ts with
    | nil => simp [bindGs] at b
    | cons t ts =>
      simp only [bindGs] at b
      obtain ⟨Γ1, b1, b2⟩ := Option.bind_eq_some_iff.mp b
      simp only [Reps] at r
      obtain ⟨o1, o2, v, vs', rfl, rfl, r1, r2⟩ := r
      have oA : Own H Z (o2 ++ (o1 ++ Os.flatten)) := o.perm (by
        rw [← List.append_assoc]
        exact List.perm_append_comm.append_right _)
      refine ⟨v, vs', rfl, Γ, Z, Os, t, o1, Γ1, ok, r1, oA.right, b1, fun σ1 Os1 ok1 sub1 kp1 => ?_⟩
      have oB : Own H Z (o2 ++ Os1.flatten) := by
        refine ⟨List.nodup_append.mpr ⟨oA.left.nd, ok1.own.nd, fun a h b m e => ?_⟩, fun a h => ?_, fun a h => ?_⟩
        · subst e; exact oA.apart h (sub1 a m)
        · rcases List.mem_append.mp h with h | h
          · exact oA.left.nz a h
          · exact ok1.own.nz a h
        · rcases List.mem_append.mp h with h | h
          · exact oA.left.tr a h
          · exact ok1.own.tr a h
      refine ⟨Γ1, Z, Os1, ts, o2, Γ2, ok1, r2, oB, b2, fun σ2 Os2 ok2 sub2 kp2 => k σ2 Os2 ok2 (fun a m => ?_) (by simpa only [gNs] using kp1.trans kp2)⟩
      rcases List.mem_append.mp (sub2 a m) with q | q
      · exact List.mem_append_left _ (List.mem_append_right _ q)
      · rcases List.mem_append.mp (sub1 a q) with z | z
        · exact List.mem_append_left _ (List.mem_append_left _ z)
        · exact List.mem_append_right _ z
theorem vg_tp {es : List Expr} {gs : List G} {n : Nat} {pos : Pos} (hc : X.calm = true) (h : PGs X es (tGTs X.K gs)) (hl : es.length = gs.length) (hs : es.all notStar = true) : PG X (.Tuple es n pos) (tGT X.K (.tp gs)) :=
  (pg_tup (n := gs.length) hc h (by rw [assign_len, hl]) (assign_find es X.env hs)).imp fun v σ H Q ⟨Γ, Z, Os, t, os, Γ2, ok, r, o, b, k⟩ => by
    cases t with
    | tup xs =>
      simp only [bindG] at b
      obtain ⟨a, vs, rfl, f, rs⟩ := r.tup_inv
      have len : ∀ (gs : List G) (xs : List T) (Γ : Env), bindGs gs xs Γ = some Γ2 → xs.length = gs.length := by
        intro gs
        induction gs with
        | nil =>
          intro xs Γ h
          cases xs with
          | nil => rfl
          | cons x xs => simp [bindGs] at h
        | cons g gs ih =>
          intro xs Γ h
          cases xs with
          | nil => simp [bindGs] at h
          | cons x xs =>
            simp only [bindGs] at h
            obtain ⟨Γ1, b1, b2⟩ := Option.bind_eq_some_iff.mp h
            simp [ih xs Γ1 b2]
      exact ⟨a, vs, rfl, f.sq, by rw [← rs.length]; exact len gs xs Γ b, Γ, Z, Os, xs, os, Γ2, ok, rs, o, b, by simpa only [gN] using k⟩
    | _ => simp [bindG] at b
end

/-! ### what a loop goes through -/
/-- what was frozen stands -/
def Keeps (H0 : Hp) (Z0 : Addr → Prop) (H : Hp) : Prop := ∀ a o, Z0 a → H0 a = some o → H a = some o
structure Itok (K : PySem.W.Frag) (J : It) (xs : List T) (H0 : Hp) (Z0 : Addr → Prop) : Prop where
  goes : ∀ i H, i < xs.length → Keeps H0 Z0 H → J.go i H
  stops : ∀ H, Keeps H0 Z0 H → J.stop xs.length H
  yld : ∀ i H (Z : Addr → Prop) x H', Keeps H0 Z0 H → (∀ a, Z0 a → Z a) → Zt H Z → i < xs.length → J.yld i H x H' → ∃ t Z', xs[i]? = some t ∧ isF t = true ∧ Nw K H Z t x H' Z' []
abbrev MI := Env → (List T → Env → Prop) → Prop
def tI (K : PySem.W.Frag) (it : I) (w : MI) : TI := fun σ H R => ∃ Γ Z Os Qt, Ok K H Z Γ Os σ ∧ w Γ Qt ∧
  ∀ xs Γ' H' Z' Os' J, Qt xs Γ' → Ok K H' Z' Γ' Os' σ → Ext Os.flatten H Z H' Z' Os'.flatten → Itok K J xs H' Z' → (lcCap it xs → xs.length ≤ sizeLine) → R J H'
theorem _root_.L2.PI.imp {X : Cx} {tg e : Expr} {t t' : TI} (h : PI X tg e t) (i : ∀ σ H Q, t' σ H Q → t σ H Q) : PI X tg e t' := ⟨fun pins s σ H Q I q => h.run pins s σ H Q I (i _ _ _ q)⟩
/-- a sequence that is frozen -/
def FzSeq (K : PySem.W.Frag) (H : Hp) (Z : Addr → Prop) (v : V) (xs : List T) : Prop := ∃ a vs, v = .ref a ∧ Reps K H Z xs [] vs ∧ (FzL H Z a vs ∨ FzT H Z a vs)
theorem FzSeq.keep {K : PySem.W.Frag} {H H' : Hp} {Z Z' : Addr → Prop} {v : V} {xs : List T} (h : FzSeq K H Z v xs) (hz : ∀ a, Z a → Z' a) (hs : ∀ a u, Z a → H a = some u → H' a = some u) : FzSeq K H' Z' v xs := by
  obtain ⟨a, vs, e, r, f⟩ := h
  refine ⟨a, vs, e, r.keep hz hs xs fun b m => absurd m (by simp), ?_⟩
  rcases f with f | f
  · exact .inl (f.keep hz hs)
  · exact .inr (f.keep hz hs)
/-- a sequence that is to be gone through: frozen from now on -/
def tH (K : PySem.W.Frag) (w : MI) : TE := fun σ H Q => ∃ Γ Z Os Qt, Ok K H Z Γ Os σ ∧ w Γ Qt ∧
  ∀ xs Γ' v H' Z' Os', Qt xs Γ' → Ok K H' Z' Γ' Os' σ → Ext Os.flatten H Z H' Z' Os'.flatten → FzSeq K H' Z' v xs → isFs xs = true → xs.length ≤ sizeLine → Q v H'
section
variable {K : PySem.W.Frag} {H H' : Hp} {Z Z' : Addr → Prop} {Γ : Env} {Os : List (List Addr)} {σ : L2.St}
/-- a value with no owner but the outermost list's, frozen -/
theorem seq_fz {x : T} {xs : List T} {os : List Addr} {v : V} (r : Rep K H Z x os v) (h : items x = some xs) (f : isFs xs = true) : FzSeq K H (fun a => Z a ∨ a ∈ os) v xs := by
  cases x with
  | tup ts =>
    have e : ts = xs := by simpa [items] using h
    subst e
    obtain ⟨a, vs, rfl, g, rs⟩ := r.tup_f f
    exact ⟨a, vs, rfl, rs.keep (fun a z => .inl z) (fun _ _ _ q => q) ts fun _ m => absurd m (by simp), .inr (g.keep (fun a z => .inl z) fun _ _ _ q => q)⟩
  | lst o ts =>
    have e : ts = xs := by simpa [items] using h
    subst e
    cases o with
    | true =>
      simp only [Rep] at r
      obtain ⟨a, vs, rfl, os', rfl, g, rs⟩ := r
      have := rs.nil ts f
      subst this
      exact ⟨a, vs, rfl, rs.keep (fun a z => .inl z) (fun _ _ _ q => q) ts fun _ m => absurd m (by simp), .inl ⟨.inr (by simp), .inl g⟩⟩
    | false =>
      simp only [Rep] at r
      obtain ⟨a, vs, rfl, _, g, rs⟩ := r
      exact ⟨a, vs, rfl, rs.keep (fun a z => .inl z) (fun _ _ _ q => q) ts fun _ m => absurd m (by simp), .inl (g.keep (fun a z => .inl z) fun _ _ _ q => q)⟩
  | _ => cases h
theorem sfz_fz {x : T} {xs : List T} (h : items x = some xs) (f : isFs xs = true) : sfz x = fz x := by
  cases x with
  | tup ts => cases h; simp [sfz, fz, fzs_of_isF _ f]
  | lst o ts => cases h; simp [sfz, fz, fzs_of_isF _ f]
  | _ => cases h
/-- a slot frozen -/
theorem Ok.frzAt {i : Nat} {t : T} (ok : Ok K H Z Γ Os σ) (hi : Γ[i]? = some (some t)) : Ok K H (fun a => Z a ∨ a ∈ Os.getD i []) (Γ.set i (some (fz t))) (Os.set i []) σ := by
  obtain ⟨v, hv, r⟩ := ok.get i t hi
  have ok1 := (ok.drop i).frz (ok.out i)
  have r1 := r.fz (Z' := fun a => Z a ∨ a ∈ Os.getD i []) (fun a z => .inl z) t fun a m => .inr m
  have il := ok.lt hi
  have := ok1.back (i := i) (by rw [List.length_set]; exact il) hv r1 (by simpa using ok1.own)
  rw [List.set_set, List.set_set] at this
  exact this
theorem Ext.frzAt {i : Nat} {os0 : List Addr} {H0 : Hp} {Z0 : Addr → Prop} (e : Ext os0 H0 Z0 H Z Os.flatten) : Ext os0 H0 Z0 H (fun a => Z a ∨ a ∈ Os.getD i []) (Os.set i []).flatten := by
  refine ⟨e.same, fun a z => .inl (e.zz a z), fun a z => ?_, fun a m => e.fr a (flatten_drop.subset m)⟩
  rcases z with z | z
  · exact e.zn a z
  · exact .inr (e.fr a (getD_mem z))
end
section
variable {X : Cx} {Φ : Nat → Spec}
/-- what the state tells of a value: its sequence isn't too long -/
theorem _root_.L2.PE.know {e : Expr} {t : TE} (h : PE X e t) : PE X e (fun σ H Q => t σ H fun v H' => (∀ a vs, v = .ref a → SqL X.K H' a vs ∨ SqT X.K H' a vs → vs.length ≤ sizeLine) → Q v H') := by
  refine ⟨fun pins s σ H Q I q => ?_⟩
  refine thn (h.run pins s σ H _ I q) fun v s1 ⟨x, H1, I1, r1, q1⟩ => ⟨x, H1, I1, r1, q1 fun a vs e hq => ?_⟩
  rcases hq with hq | hq
  · obtain ⟨_, _, _, z⟩ := I1.list hq; exact z
  · obtain ⟨_, _, _, z⟩ := I1.tuple hq; exact z
theorem FzSeq.cap {H : Hp} {Z : Addr → Prop} {v : V} {xs : List T} (h : FzSeq X.K H Z v xs) (k : ∀ a vs, v = .ref a → SqL X.K H a vs ∨ SqT X.K H a vs → vs.length ≤ sizeLine) : xs.length ≤ sizeLine := by
  obtain ⟨a, vs, e, r, f⟩ := h
  rw [r.length]
  refine k a vs e ?_
  rcases f with f | f
  · exact .inl f.sq
  · exact .inr f.sq
theorem vh_seq {e : Expr} {A : P} (h : PE X e (tP X.K A (wpP Φ A))) : PE X e (tH X.K fun Γ R => wpP Φ A Γ fun x Γ1 => hold A x Γ1 R) := h.know.imp fun σ H Q ⟨Γ, Z, Os, Qt, ok, w, k⟩ => by
  refine ⟨Γ, Z, Os, _, ok, w, fun x Γ1 v H1 Z1 Os1 o1 q1 r1 kn => ?_⟩
  obtain ⟨xs, h1, h2, q⟩ := q1
  cases A with
  | tmp e =>
    have r1 : Res X.K Os.flatten H Z σ x Γ1 v H1 Z1 Os1 o1 := r1
    have r2 := r1.frz
    have fs := seq_fz r1.rep h1 h2
    exact k xs Γ1 v H1 _ Os1 q r2.ok r2.exto fs h2 (fs.cap kn)
  | var i =>
    obtain ⟨_, ok1, e1, e2, e3⟩ := r1
    obtain ⟨v', e4, e5⟩ := ok1.get i x e2
    rw [e1] at e4
    cases e4
    have fs := seq_fz e5 h1 h2
    have ok2 := ok1.frzAt e2
    rw [← sfz_fz h1 h2] at ok2
    exact k xs _ v H1 _ _ q ok2 e3.frzAt fs h2 (fs.cap kn)
theorem isFs_map {α : Type} {f : α → T} {xs : List α} (h : ∀ x, isF (f x) = true) : isFs (xs.map f) = true := by
  rw [isFs_all]
  simp [h]
theorem isFs_get {xs : List T} (h : isFs xs = true) {i : Nat} {t : T} (e : xs[i]? = some t) : isF t = true := isFs_mem h (List.mem_of_getElem? e)
/-- a frozen sequence gone through -/
theorem itok_list {K : PySem.W.Frag} {H0 : Hp} {Z0 : Addr → Prop} {a : Addr} {vs : List V} {xs : List T} (r : Reps K H0 Z0 xs [] vs) (f : FzL H0 Z0 a vs) (fs : isFs xs = true) : Itok K (Itl K a) xs H0 Z0 := by
  have sq : ∀ H, Keeps H0 Z0 H → SqL K H a vs := fun H k => .inl (Rd.keep f.2 fun o q => k a o f.1 q)
  have W := walk_list (K := K) (a := a) (xs := vs)
  refine ⟨fun i H hi k => W.goes i H (by rw [← r.length]; exact hi) (sq H k), fun H k => by rw [r.length]; exact W.stops H (sq H k), fun i H Z x H' k hz zt hi y => ?_⟩
  obtain ⟨rfl, e⟩ := W.yields i H x H' (by rw [← r.length]; exact hi) (sq H k) y
  have e2 : xs[i]? = some xs[i] := by simp [hi]
  obtain ⟨v, h1, h2⟩ := r.nilOs e2
  rw [e] at h1
  cases h1
  exact ⟨xs[i], Z, e2, isFs_get fs e2, Nw.scalar (h2.keep hz (fun a u z q => k a u z q) _ fun b m => absurd m (by simp)) zt⟩
theorem itok_tup {K : PySem.W.Frag} {H0 : Hp} {Z0 : Addr → Prop} {a : Addr} {vs : List V} {xs : List T} (r : Reps K H0 Z0 xs [] vs) (f : FzT H0 Z0 a vs) (fs : isFs xs = true) : Itok K (Itt K a) xs H0 Z0 := by
  have sq : ∀ H, Keeps H0 Z0 H → SqT K H a vs := fun H k => .inl (.inl (k a _ f.1 f.2))
  have W := walk_tup (K := K) (a := a) (xs := vs)
  refine ⟨fun i H hi k => W.goes i H (by rw [← r.length]; exact hi) (sq H k), fun H k => by rw [r.length]; exact W.stops H (sq H k), fun i H Z x H' k hz zt hi y => ?_⟩
  obtain ⟨rfl, e⟩ := W.yields i H x H' (by rw [← r.length]; exact hi) (sq H k) y
  have e2 : xs[i]? = some xs[i] := by simp [hi]
  obtain ⟨v, h1, h2⟩ := r.nilOs e2
  rw [e] at h1
  cases h1
  exact ⟨xs[i], Z, e2, isFs_get fs e2, Nw.scalar (h2.keep hz (fun a u z q => k a u z q) _ fun b m => absurd m (by simp)) zt⟩
/-- lists and tuples -/
theorem pi_either {tg e : Expr} {te : TE} (h : PE X e te) : PI X tg e (fun σ H R => te σ H fun x H1 => ∃ a xs, x = .ref a ∧ ((SqL X.K H1 a xs ∧ R (Itl X.K a) H1) ∨ (SqT X.K H1 a xs ∧ R (Itt X.K a) H1))) := by
  refine ⟨fun pins s σ H R I q => ?_⟩
  refine thn (h.run pins s σ H _ I q) fun v s1 ⟨x, H1, I1, r1, q1⟩ => ?_
  obtain ⟨a, xs, rfl, q1⟩ := q1
  cases r1
  have fin : ∀ b ∈ [s1.heap.objs.size], FpOk X pins H1 b := fun b hb => by
    have e : b = s1.heap.objs.size := by simpa using hb
    subst e
    exact I1.fpOk (Nat.le_refl _) (I1.hok.fresh (Nat.le_refl _))
  rcases q1 with ⟨hq, q1⟩ | ⟨hq, q1⟩
  · obtain ⟨its, rv, p, hz⟩ := I1.list hq
    refine wpAny_pyIter_list p.isList ?_
    exact ⟨s1.heap.objs.size, [s1.heap.objs.size], _, _, H1, rfl, I1.kept (t' := s1.toks) fun b o e => Heap.get?_push_of_some _ e, turn_list a _, ⟨_, Heap.get?_push_size _ rfl, rfl, rfl⟩, fin, q1⟩
  · obtain ⟨its, rv, p, hz⟩ := I1.tuple hq
    refine wpAny_pyIter_tuple (show s1.heap.IsTuple a its.toArray from p) ?_
    exact ⟨s1.heap.objs.size, [s1.heap.objs.size], _, _, H1, rfl, I1.kept (t' := s1.toks) fun b o e => Heap.get?_push_of_some _ e, turn_tuple a _, ⟨_, Heap.get?_push_size _ rfl, rfl, rfl⟩, fin, q1⟩
theorem vi_seq {tg e : Expr} {A : P} (h : PE X e (tP X.K A (wpP Φ A))) : PI X tg e (tI X.K (.seq A) (wpI Φ (.seq A))) := (pi_either (vh_seq h)).imp fun σ H R ⟨Γ, Z, Os, Qt, ok, w, k⟩ => by
  simp only [wpI] at w
  refine ⟨Γ, Z, Os, Qt, ok, w, fun xs Γ' v H' Z' Os' q ok' e' f fs cap => ?_⟩
  obtain ⟨a, vs, rfl, r, f⟩ := f
  rcases f with f | f
  · exact ⟨a, vs, rfl, .inl ⟨f.sq, k xs Γ' H' Z' Os' _ q ok' e' (itok_list r f fs) fun _ => cap⟩⟩
  · exact ⟨a, vs, rfl, .inr ⟨f.sq, k xs Γ' H' Z' Os' _ q ok' e' (itok_tup r f fs) fun _ => cap⟩⟩
/-- range -/
theorem itok_rng {K : PySem.W.Frag} {H0 : Hp} {Z0 : Addr → Prop} {lo : Int} {n : Nat} {xs : List T} (hx : xs = (List.range n).map fun (k : Nat) => T.int (lo + k)) : Itok K (Itr lo n) xs H0 Z0 := by
  have hl : xs.length = n := by rw [hx]; simp
  refine ⟨fun i H hi k => by rw [hl] at hi; exact hi, fun H k => by rw [hl]; exact Nat.le_refl _, fun i H Z x H' k hz zt hi y => ?_⟩
  obtain ⟨rfl, rfl⟩ := y
  rw [hl] at hi
  exact ⟨.int (lo + i), Z, by rw [hx, List.getElem?_map, List.getElem?_range hi]; rfl, rfl, Nw.scalar rep_int zt⟩
theorem vi_rng1 {tg a : Expr} {A : E} {p pos : Pos} (hg : Gl X "range") (hm : X.mg "range" = none) (ha : PE X a (tV X.K (wpE Φ A))) (hs : notStar a = true) : PI X tg (.Call (.Name "range" p) [a] [] pos) (tI X.K (.rng1 A) (wpI Φ (.rng1 A))) :=
  (pi_range1 hg hm (pa_cons ha pa_nil (star_cons hs)) (star_one hs)).imp fun σ H R ⟨Γ, Z, Os, Qt, ok, w, k⟩ => by
    simp only [wpI] at w
    refine ⟨Γ, Z, Os, _, ok, w, fun t Γ1 v H1 Z1 Os1 o1 q1 r1 => ?_⟩
    obtain ⟨n, rfl, b1, b2, q⟩ := q1
    refine ⟨n, by rw [r1.rep.int_inv], b1, b2, k _ _ _ _ _ _ q r1.ok r1.exto (itok_rng (lo := 0) (by simp)) fun c => c⟩
theorem vi_rng2 {tg a b : Expr} {A B : E} {p pos : Pos} (hg : Gl X "range") (hm : X.mg "range" = none) (ha : PE X a (tV X.K (wpE Φ A))) (hb : PE X b (tV X.K (wpE Φ B))) (hs : notStar a = true ∧ notStar b = true) : PI X tg (.Call (.Name "range" p) [a, b] [] pos) (tI X.K (.rng2 A B) (wpI Φ (.rng2 A B))) :=
  (pi_range2 hg hm (pa_cons ha (pa_cons hb pa_nil (star_cons hs.2)) (star_cons hs.1)) (by rw [star_cons hs.1, star_one hs.2]) (star_one hs.2)).imp fun σ H R ⟨Γ, Z, Os, Qt, ok, w, k⟩ => by
    simp only [wpI] at w
    refine ⟨Γ, Z, Os, _, ok, w, fun t Γ1 v H1 Z1 Os1 o1 q1 r1 => ⟨Γ1, Z1, Os1, _, r1.ok, q1, fun t2 Γ2 v2 H2 Z2 Os2 o2 q2 r2 => ?_⟩⟩
    obtain ⟨m, n, rfl, rfl, b, q⟩ := q2
    exact ⟨m, n, by rw [r1.rep.int_inv, r2.rep.int_inv], b, k _ _ _ _ _ _ q r2.ok (r1.exto.trans r2.exto) (itok_rng rfl) fun c => c⟩
end
end PL

end
section
set_option maxHeartbeats 1000000
/-! PLl: list comprehensions. -/
namespace PL
open PySem PySem.Spec L2
open PyProof.Rows hiding St

def wipeO : List Nat → List (List Addr) → List (List Addr)
  | [], Os => Os
  | v :: vs, Os => (wipeO vs Os).set v []
theorem wipeE_out {own : List Nat} {Γ : Env} {i : Nat} (h : i ∉ own) : (wipeE own Γ)[i]? = Γ[i]? := by
  induction own with
  | nil => rfl
  | cons v vs ih =>
    simp only [List.mem_cons, not_or] at h
    unfold wipeE
    rw [List.getElem?_set_ne (Ne.symm h.1), ih h.2]
theorem wipeE_in {own : List Nat} {Γ : Env} {i : Nat} (h : i ∈ own) (t : T) : (wipeE own Γ)[i]? ≠ some (some t) := by
  induction own with
  | nil => cases h
  | cons v vs ih =>
    unfold wipeE
    intro e
    by_cases hv : v = i
    · subst hv
      by_cases hl : v < (wipeE vs Γ).length
      · rw [List.getElem?_set_self hl] at e; cases e
      · rw [List.getElem?_eq_none (by simpa using hl)] at e; cases e
    · rw [List.getElem?_set_ne hv] at e
      rcases List.mem_cons.mp h with z | z
      · exact hv z.symm
      · exact ih z e
theorem wipeE_len (own : List Nat) (Γ : Env) : (wipeE own Γ).length = Γ.length := by
  induction own with
  | nil => rfl
  | cons v vs ih => unfold wipeE; rw [List.length_set, ih]
theorem wipeO_out {own : List Nat} {Os : List (List Addr)} {i : Nat} (h : i ∉ own) : (wipeO own Os).getD i [] = Os.getD i [] := by
  induction own with
  | nil => rfl
  | cons v vs ih =>
    simp only [List.mem_cons, not_or] at h
    unfold wipeO
    rw [getD_set_ne (Ne.symm h.1), ih h.2]
theorem wipeO_in {own : List Nat} {Os : List (List Addr)} {i : Nat} (h : i ∈ own) : (wipeO own Os).getD i [] = [] := by
  induction own with
  | nil => cases h
  | cons v vs ih =>
    unfold wipeO
    by_cases hv : v = i
    · subst hv
      by_cases hl : v < (wipeO vs Os).length
      · rw [getD_set_self hl]
      · rw [List.getD_eq_getElem?_getD, List.getElem?_eq_none (by simpa using hl)]; rfl
    · rw [getD_set_ne hv]
      rcases List.mem_cons.mp h with z | z
      · exact absurd z.symm hv
      · exact ih z
theorem wipeO_len (own : List Nat) (Os : List (List Addr)) : (wipeO own Os).length = Os.length := by
  induction own with
  | nil => rfl
  | cons v vs ih => unfold wipeO; rw [List.length_set, ih]
theorem wipeO_sub (own : List Nat) (Os : List (List Addr)) : (wipeO own Os).flatten.Sublist Os.flatten := by
  induction own with
  | nil => exact List.Sublist.refl _
  | cons v vs ih => unfold wipeO; exact flatten_drop.trans ih
theorem wipe_out {own : List Nat} {σ : L2.St} {i : Nat} (h : i ∉ own) : (wipe σ own)[i]? = σ[i]? := by
  induction own with
  | nil => rfl
  | cons v vs ih =>
    simp only [List.mem_cons, not_or] at h
    unfold wipe
    rw [List.getElem?_set_ne (Ne.symm h.1), ih h.2]
theorem wipe_in {own : List Nat} {σ : L2.St} {i : Nat} (h : i ∈ own) : (wipe σ own)[i]? = if i < σ.length then some none else none := by
  induction own with
  | nil => cases h
  | cons v vs ih =>
    unfold wipe
    by_cases hv : v = i
    · subst hv
      split
      · rename_i hl
        rw [List.getElem?_set_self (by rw [wipe_length]; exact hl)]
      · rename_i hl
        rw [List.getElem?_eq_none (by rw [List.length_set, wipe_length]; omega)]
    · rw [List.getElem?_set_ne hv]
      rcases List.mem_cons.mp h with z | z
      · exact absurd z.symm hv
      · exact ih z
theorem wipe_eq {own : List Nat} {σ σ2 : L2.St} (hl : σ2.length = σ.length) (h : ∀ i, i ∉ own → σ2[i]? = σ[i]?) : wipe σ2 own = wipe σ own := by
  apply List.ext_getElem?
  intro i
  by_cases m : i ∈ own
  · rw [wipe_in m, wipe_in m, hl]
  · rw [wipe_out m, wipe_out m, h i m]
theorem backE_out {own : List Nat} {Γ0 Γ : Env} {i : Nat} (h : i ∉ own) : (backE own Γ0 Γ)[i]? = Γ[i]? := by
  induction own with
  | nil => rfl
  | cons v vs ih =>
    simp only [List.mem_cons, not_or] at h
    unfold backE
    rw [List.getElem?_set_ne (Ne.symm h.1), ih h.2]
theorem backE_len (own : List Nat) (Γ0 Γ : Env) : (backE own Γ0 Γ).length = Γ.length := by
  induction own with
  | nil => rfl
  | cons v vs ih => unfold backE; rw [List.length_set, ih]
theorem backE_in {own : List Nat} {Γ0 Γ : Env} {i : Nat} (h : i ∈ own) {t : T} (e : (backE own Γ0 Γ)[i]? = some (some t)) : Γ0[i]? = some (some t) ∧ isF t = true := by
  induction own with
  | nil => cases h
  | cons v vs ih =>
    unfold backE at e
    by_cases hv : v = i
    · subst hv
      by_cases hl : v < (backE vs Γ0 Γ).length
      · rw [List.getElem?_set_self hl] at e
        have e := Option.some.inj e
        rw [List.getD_eq_getElem?_getD] at e
        cases q : Γ0[v]? with
        | none => rw [q] at e; simp [keepF] at e
        | some o =>
          rw [q] at e
          cases o with
          | none => simp [keepF] at e
          | some t' =>
            simp only [Option.getD_some, keepF] at e
            split at e
            · cases e; exact ⟨rfl, by assumption⟩
            · cases e
      · rw [List.getElem?_eq_none (by simpa using hl)] at e; cases e
    · rw [List.getElem?_set_ne hv] at e
      rcases List.mem_cons.mp h with z | z
      · exact absurd z.symm hv
      · exact ih z e
section
variable {K : PySem.W.Frag} {H H' : Hp} {Z Z' : Addr → Prop} {Γ : Env} {Os : List (List Addr)} {σ : L2.St}
theorem Ok.wipe (ok : Ok K H Z Γ Os σ) (own : List Nat) {σ2 : L2.St} (hl : σ2.length = σ.length) (h : ∀ i, i ∉ own → σ2[i]? = σ[i]?) : Ok K H Z (wipeE own Γ) (wipeO own Os) σ2 := by
  refine ⟨by rw [hl, wipeE_len]; exact ok.ls, by rw [wipeO_len, wipeE_len]; exact ok.lo, fun i t e => ?_, ok.own.sublist (wipeO_sub own Os), ok.zt⟩
  by_cases m : i ∈ own
  · exact absurd e (wipeE_in m t)
  · rw [wipeE_out m] at e
    obtain ⟨v, h1, h2⟩ := ok.get i t e
    exact ⟨v, by rw [h i m]; exact h1, by rw [wipeO_out m]; exact h2⟩
/-- an owned thing beside the slots changes -/
theorem Ok.side {D : Addr} {u : HO} {os : List Addr} (ok : Ok K H Z Γ Os σ) (own : Own H Z (D :: Os.flatten)) : Ok K (upd H D u) Z Γ Os σ ∧ Own (upd H D u) Z (D :: Os.flatten) ∧
    ∀ {os0 : List Addr} {H0 : Hp} {Z0 : Addr → Prop}, Ext os0 H0 Z0 H Z (D :: Os.flatten) → Ext os0 H0 Z0 (upd H D u) Z (D :: Os.flatten) := by
  have nz : ¬ Z D := own.nz D List.mem_cons_self
  have nm : D ∉ Os.flatten := (List.nodup_cons.mp own.nd).1
  have ne : ∀ b o, H b = some o → b ≠ D → upd H D u b = some o := fun b o q n => (upd_ne n).trans q
  have o2 : Own (upd H D u) Z (D :: Os.flatten) := ⟨own.nd, own.nz, fun b m => by
    by_cases e : b = D
    · exact ⟨u, by rw [e, upd_same]⟩
    · obtain ⟨o, q⟩ := own.tr b m; exact ⟨o, ne b o q e⟩⟩
  refine ⟨⟨ok.ls, ok.lo, fun i t e => ?_, o2.sublist (List.sublist_cons_self _ _), upd_zt ok.zt⟩, o2, fun {os0 H0 Z0} e => ⟨fun b o q n => ?_, e.zz, e.zn, e.fr⟩⟩
  · obtain ⟨v, h1, h2⟩ := ok.get i t e
    exact ⟨v, h1, h2.upd nz fun m => nm (getD_mem m)⟩
  · have q' := e.same b o q n
    refine ne b o q' fun eb => ?_
    subst eb
    rcases e.fr b List.mem_cons_self with z | z
    · exact n z
    · rw [z] at q; cases q
theorem Keeps.of {os0 os : List Addr} {H0 : Hp} {Z0 : Addr → Prop} (e : Ext os0 H0 Z0 H Z os) (o : Own H0 Z0 os0) : Keeps H0 Z0 H := fun a u z q => e.keepZ o a u z q
end
theorem wipeE_twice (own : List Nat) (Γ : Env) : wipeE own (wipeE own Γ) = wipeE own Γ := by
  apply List.ext_getElem?
  intro i
  by_cases m : i ∈ own
  · have h : ∀ Γ : Env, (wipeE own Γ)[i]? = if i < Γ.length then some none else none := fun Γ => by
      by_cases hl : i < Γ.length
      · rw [if_pos hl]
        have hl' : i < (wipeE own Γ).length := by rw [wipeE_len]; exact hl
        rw [List.getElem?_eq_getElem hl']
        cases q : (wipeE own Γ)[i] with
        | none => rfl
        | some t => exact absurd (by rw [List.getElem?_eq_getElem hl', q]) (wipeE_in m t)
      · rw [if_neg hl, List.getElem?_eq_none (by rw [wipeE_len]; omega)]
    rw [h, h, wipeE_len]
  · rw [wipeE_out m]
mutual
theorem bindG_len : ∀ {g : G} {t : T} {Γ Γ' : Env}, bindG g t Γ = some Γ' → Γ'.length = Γ.length
  | .nm i, t, Γ, Γ', h => by
    simp only [bindG] at h
    split at h
    · cases h; simp
    · cases h
  | .tp gs, .tup xs, Γ, Γ', h => bindGs_len (by simpa only [bindG] using h)
  | .tp gs, .non, Γ, Γ', h => by simp [bindG] at h
  | .tp gs, .bl _, Γ, Γ', h => by simp [bindG] at h
  | .tp gs, .int _, Γ, Γ', h => by simp [bindG] at h
  | .tp gs, .str _, Γ, Γ', h => by simp [bindG] at h
  | .tp gs, .lst _ _, Γ, Γ', h => by simp [bindG] at h
  | .tp gs, .dic _ _ _, Γ, Γ', h => by simp [bindG] at h
  | .tp gs, .scr _, Γ, Γ', h => by simp [bindG] at h
theorem bindGs_len : ∀ {gs : List G} {ts : List T} {Γ Γ' : Env}, bindGs gs ts Γ = some Γ' → Γ'.length = Γ.length
  | [], [], Γ, Γ', h => by simp only [bindGs] at h; cases h; rfl
  | [], _ :: _, Γ, Γ', h => by simp [bindGs] at h
  | _ :: _, [], Γ, Γ', h => by simp [bindGs] at h
  | g :: gs, t :: ts, Γ, Γ', h => by
    simp only [bindGs] at h
    obtain ⟨Γ1, b1, b2⟩ := Option.bind_eq_some_iff.mp h
    rw [bindGs_len b2, bindG_len b1]
end
section
variable {X : Cx} {Φ : Nat → Spec}
theorem lc_imp {K : PySem.W.Frag} {own : List Nat} {it : I} {g : G} {c : Oc} {e : E} (hg : ∀ i ∈ gN g, i ∈ own) : ∀ σ H Q, tV K (wpE Φ (.lc own it g c e)) σ H Q →
    tLc (tI K it (wpI Φ it)) (tGT K g) (tQ K (wpOc Φ c)) (tV K (wpE Φ e)) own σ H Q := fun σ H Q ⟨Γ, Z, Os, Qt, ok, w, k⟩ => by
  simp only [wpE] at w
  refine ⟨Γ, Z, Os, _, ok, w, fun xs Γ1 H1 Z1 Os1 J q1 ok1 e1 io cap D hD => ?_⟩
  obtain ⟨cp, lp⟩ := q1
  have cap := cap cp
  have wl : (L2.wipe σ own).length = σ.length := wipe_length σ own
  -- the invariant
  refine ⟨fun i m H2 => m = xs.length - i ∧ i ≤ xs.length ∧ ∃ Γ2 Z2 Os2 ys vs, Ok K H2 Z2 (wipeE own Γ2) Os2 (L2.wipe σ own) ∧
    lcLoop own (fun x Γ' Kk => ∃ Γ2, bindG g x Γ' = some Γ2 ∧ wpOc Φ c Γ2 fun b Γ3 => if b = true then wpE Φ e Γ3 fun y Γ4 => isF y = true ∧ Kk (some y) Γ4 else Kk none Γ3) (xs.drop i) Γ2 ys (fun ys Γ' => Qt (.lst true ys) (backE own Γ1 Γ')) ∧
    H2 D = some (.lst vs) ∧ Reps K H2 Z2 ys [] vs ∧ isFs ys = true ∧ vs.length ≤ i ∧ Own H2 Z2 (D :: Os2.flatten) ∧ Ext Os1.flatten H1 Z1 H2 Z2 (D :: Os2.flatten), ⟨xs.length, by simp, Nat.zero_le _, ?_⟩, ?_⟩
  · obtain ⟨ex, ow⟩ := new_own (o := HO.lst []) hD ok1.zt
    have okw := ok1.wipe own wl fun i n => wipe_out n
    have ok2 := okw.ext0 ex (upd_zt ok1.zt)
    refine ⟨Γ1, Z1, _, [], [], ok2, lp, upd_same, by simp [Reps], rfl, Nat.le_refl _, ?_, ?_⟩
    · exact okw.own.ext0 ex ow
    · have := ex.frame (wipeO own Os1).flatten
      rw [List.append_nil] at this
      refine (this.wide (os1 := Os1.flatten) fun a m => (wipeO_sub own Os1).subset m).sub fun a m => ?_
      rcases List.mem_cons.mp m with m | m
      · exact List.mem_append_right _ (by rw [m]; simp)
      · exact List.mem_append_left _ m
  · rintro i m H2 ⟨rfl, hi, Γ2, Z2, Os2, ys, vs, ok2, lp2, hd2, ry, fy, hl, ow2, ex2⟩
    have kp := Keeps.of ex2 ok1.own
    by_cases hlt : i < xs.length
    · refine .inr ⟨io.goes i H2 hlt kp, _, fun H' p => ⟨xs.length - (i + 1), by omega, rfl, by omega, p⟩, fun x H3 y => ?_⟩
      obtain ⟨t, Z3, ht, ft, nw⟩ := io.yld i H2 Z2 x H3 kp ex2.zz ok2.zt hlt y
      have edrop : xs.drop i = t :: xs.drop (i + 1) := by
        rw [List.drop_eq_getElem_cons hlt]
        have := List.getElem?_eq_getElem hlt
        rw [this] at ht
        cases ht
        rfl
      rw [edrop] at lp2
      obtain ⟨Γ3, hb, lp3⟩ := lp2
      have ok3 := ok2.ext0 nw.ext nw.zt
      have ow3 : Own H3 Z3 (D :: Os2.flatten) := by have := ow2.ext0 nw.ext nw.own; simpa using this
      have ex3 : Ext Os1.flatten H1 Z1 H3 Z3 (D :: Os2.flatten) := by
        have := nw.ext.frame (D :: Os2.flatten)
        rw [List.append_nil] at this
        exact ex2.trans this
      have hd3 : H3 D = some (.lst vs) := nw.ext.same D _ hd2 (by simp)
      have ry3 : Reps K H3 Z3 ys [] vs := ry.keep nw.ext.zz (fun a u _ q => nw.ext.same a u q (by simp)) ys fun a m => absurd m (by simp)
      refine ⟨_, Z3, Os2, t, [], Γ3, ok3, nw.rep, by simpa using ok3.own, hb, fun σ4 Os4 ok4 sub4 kp4 => ?_⟩
      have off4 : ∀ j, j ∉ own → σ4[j]? = (L2.wipe σ own)[j]? := fun j n => kp4 j fun m => n (hg j m)
      have len4 : σ4.length = (L2.wipe σ own).length := by rw [ok4.ls, ok3.ls]; exact (bindG_len hb)
      refine ⟨?_, Γ3, Z3, Os4, _, ok4, lp3, fun b Γ5 H5 Z5 Os5 q5 ok5 e5 => ?_⟩
      · have : L2.wipe σ4 own = L2.wipe (L2.wipe σ own) own := wipe_eq len4 off4
        rw [this]
        exact wipe_eq wl fun j n => wipe_out n
      have ow4 : Own H3 Z3 ([D] ++ Os4.flatten) := by
        refine ⟨?_, fun a m => ?_, fun a m => ?_⟩
        · rw [List.singleton_append, List.nodup_cons]
          exact ⟨fun m => (List.nodup_cons.mp ow3.nd).1 (by simpa using sub4 D m), ok4.own.nd⟩
        · rcases List.mem_append.mp m with m | m
          · exact ow3.nz a (by rw [List.mem_singleton.mp m]; exact List.mem_cons_self)
          · exact ok4.own.nz a m
        · rcases List.mem_append.mp m with m | m
          · exact ow3.tr a (by rw [List.mem_singleton.mp m]; exact List.mem_cons_self)
          · exact ok4.own.tr a m
      have ex4 : Ext Os1.flatten H1 Z1 H3 Z3 ([D] ++ Os4.flatten) := ex3.sub fun a m => by
        rcases List.mem_append.mp m with m | m
        · rw [List.mem_singleton.mp m]; exact List.mem_cons_self
        · exact List.mem_cons_of_mem _ (by simpa using sub4 a m)
      have ow5 : Own H5 Z5 ([D] ++ Os5.flatten) := ow4.frame e5 ok5.own
      have ex5 : Ext Os1.flatten H1 Z1 H5 Z5 ([D] ++ Os5.flatten) := ex4.trans (e5.frame [D])
      have hd5 : H5 D = some (.lst vs) := e5.same D _ hd3 (ow4.apart (by simp))
      have ry5 : Reps K H5 Z5 ys [] vs := ry3.ext (t := []) e5 (by simpa using ok4.own)
      cases b with
      | false =>
        simp only [Bool.false_eq_true, if_false] at q5 ⊢
        have okw := ok5.wipe own (σ2 := L2.wipe σ own) len4.symm fun j n => (off4 j n).symm
        refine ⟨wipeE own Γ5, Z5, wipeO own Os5, ys, vs, ?_, by simpa using q5, hd5, ry5, fy, by omega, ow5.sublist ((wipeO_sub own Os5).append_left [D]), ex5.sub fun a m => ?_⟩
        · have : wipeE own (wipeE own Γ5) = wipeE own Γ5 := wipeE_twice own Γ5
          rw [this]; exact okw
        · rcases List.mem_cons.mp m with m | m
          · rw [m]; simp
          · exact List.mem_append_right _ ((wipeO_sub own Os5).subset m)
      | true =>
        simp only [if_true] at q5 ⊢
        refine ⟨Γ5, Z5, Os5, _, ok5, q5, fun y Γ6 v H6 Z6 Os6 os6 q6 r6 => ?_⟩
        obtain ⟨fy6, q6⟩ := q6
        have n6 := r6.nilF fy6
        subst n6
        have e6 := r6.exto
        have ow6 : Own H6 Z6 ([D] ++ Os6.flatten) := ow5.frame e6 r6.ok.own
        have ex6 : Ext Os1.flatten H1 Z1 H6 Z6 ([D] ++ Os6.flatten) := ex5.trans (e6.frame [D])
        have hd6 : H6 D = some (.lst vs) := e6.same D _ hd5 (ow5.apart (by simp))
        have ry6 : Reps K H6 Z6 ys [] vs := ry5.ext (t := []) e6 (by simpa using ok5.own)
        have nzD : ¬ Z6 D := ow6.nz D (by simp)
        obtain ⟨ok7, ow7, ext7⟩ := r6.ok.side (u := .lst (vs ++ [v])) (os := []) ow6
        have okw := ok7.wipe own (σ2 := L2.wipe σ own) len4.symm fun j n => (off4 j n).symm
        refine ⟨vs, hd6, by omega, wipeE own Γ6, Z6, wipeO own Os6, ys ++ [y], vs ++ [v], ?_, by simpa using q6, upd_same, ?_, ?_, by simp; omega, ow7.sublist ((wipeO_sub own Os6).append_left [D]), (ext7 ex6).sub fun a m => ?_⟩
        · have : wipeE own (wipeE own Γ6) = wipeE own Γ6 := wipeE_twice own Γ6
          rw [this]; exact okw
        · have r1 := ry6.upd (u := .lst (vs ++ [v])) nzD (by simp)
          have r2 := r6.rep.upd (u := .lst (vs ++ [v])) nzD (by simp)
          have := r1.append (us := [y]) (o2 := []) (ws := [v]) (by simp only [Reps]; exact ⟨[], [], v, [], rfl, rfl, r2, rfl, rfl⟩)
          simpa using this
        · rw [isFs_all, List.all_append, ← isFs_all, fy]; simp [fy6]
        · rcases List.mem_cons.mp m with m | m
          · rw [m]; simp
          · exact List.mem_cons_of_mem _ ((wipeO_sub own Os6).subset m)
    · have e : i = xs.length := by omega
      subst e
      refine .inl ⟨io.stops H2 kp, ?_⟩
      rw [List.drop_length] at lp2
      have okB : Ok K H2 Z2 (backE own Γ1 Γ2) (wipeO own Os2) σ := by
        have oks := ok2.own.sublist (wipeO_sub own Os2)
        refine ⟨?_, by rw [wipeO_len, backE_len]; have := ok2.lo; rw [wipeE_len] at this; exact this, fun j t e => ?_, oks, ok2.zt⟩
        · have := ok2.ls
          rw [wl, wipeE_len] at this
          rw [backE_len]; exact this
        · by_cases m : j ∈ own
          · obtain ⟨g1, f1⟩ := backE_in m e
            obtain ⟨v, h1, h2⟩ := ok1.get j t g1
            have n := h2.nil t f1
            rw [n] at h2
            rw [wipeO_in m]
            exact ⟨v, h1, h2.keep ex2.zz (ex2.keepZ ok1.own) t fun a m => absurd m (by simp)⟩
          · rw [backE_out m] at e
            obtain ⟨v, h1, h2⟩ := ok2.get j t (by rw [wipeE_out m]; exact e)
            rw [wipe_out m] at h1
            exact ⟨v, h1, by rw [wipeO_out m]; exact h2⟩
      refine k (.lst true ys) _ (.ref D) H2 Z2 (wipeO own Os2) [D] lp2 ⟨okB, ?_, ow2.sublist ((wipeO_sub own Os2).append_left [D]), e1.trans (ex2.sub fun a m => ?_)⟩
      · simp only [Rep]
        exact ⟨D, vs, rfl, [], rfl, hd2, ry⟩
      · rcases List.mem_append.mp m with m | m
        · rw [List.mem_singleton.mp m]; exact List.mem_cons_self
        · exact List.mem_cons_of_mem _ ((wipeO_sub own Os2).subset m)
end
end PL

end
section
set_option maxHeartbeats 1000000
/-! PLm: enumerate, zip over lists and tuples in any mix. -/
namespace PL
open PySem PySem.Spec L2
open PyProof.Rows hiding St
open PySem (Goes Draws WalksT Begins)

/-! ### enumerate(v) begins, v whatever begins -/
theorem meets_enumB1 {v : Value} {o : Obj} {H : Heap → Prop} (B : Begins v o H) :
    Meets (Builtin.«enumerate.__new__» ⟨[.type "enumerate", v], []⟩) (fun _ R s => H s.heap ∧
      R (.ok (.ret (.ref (s.heap.push o).objs.size))) { s with heap := (s.heap.push o).push { cls := .type "enumerate", data := .fields #[.none, .bool false, .ref s.heap.objs.size, rawInt 0, .none, .none] } }) :=
  .of_wp fun prog w A R s h => by
    obtain ⟨hp, g, d, tk, os⟩ := s; obtain ⟨h1, h⟩ := h
    have hsub := sub_enumerate
    have q1 : ∀ {A' : Around} {E : Value → Shared → Prop} {Q : Value → Shared → Prop}, Q (.ref hp.objs.size) ⟨hp.push o, g, d, tk, os⟩ → wpAny (model prog w) A' (pyIter v) Q E ⟨hp, g, d, tk, os⟩ :=
      fun q => B.iter prog w _ _ ⟨hp, g, d, tk, os⟩ _ h1 q
    wp_walk using q1
    refine wpAny_stack_any fun st => wpAny_pure ?_
    split
    · rename_i c _ _ _ _ _
      cases (c == Value.type "enumerate")
      · wp_walk using q1
        exact ⟨_, rfl, h⟩
      · wp_walk using q1
        exact ⟨_, rfl, h⟩
    · wp_walk using q1
      exact ⟨_, rfl, h⟩
section
variable {prog : Program} {w : World} {A : Around} {E : Value → Shared → Prop} {s : Shared}
theorem enum_begins1 {v : Value} {o : Obj} {H : Heap → Prop} {Q : Value → Shared → Prop} (B : Begins v o H) (h1 : H s.heap)
    (h : ∀ h', IsEnum h' (s.heap.objs.size + 1) s.heap.objs.size 0 .none → h'.get? s.heap.objs.size = some o → h'.objs.size = s.heap.objs.size + 2 →
      (∀ b o, s.heap.get? b = some o → h'.get? b = some o) → Q (.ref (s.heap.objs.size + 1)) { s with heap := h' }) :
    wpAny (model prog w) A (call (.type "enumerate") [v]) Q E s := by
  refine callType_new F.called_enumerate (by decide) (F.typeCall_enumerate_1 _) (F.newCall_enumerate_1 _) (fun obj => F.args_object_init_2 obj _) F.entry_enumerate_new
    (meets_enumB1 B) ⟨h1, ?_⟩
  have hz : (s.heap.push o).objs.size = s.heap.objs.size + 1 := Heap.size_push ..
  show _ ∧ _
  rw [hz]
  have he : IsEnum ((s.heap.push o).push { cls := .type "enumerate", data := .fields #[.none, .bool false, .ref s.heap.objs.size, rawInt 0, .none, .none] }) (s.heap.objs.size + 1) s.heap.objs.size 0 .none := by
    have := Heap.get?_push_size (s.heap.push o) (o := { cls := .type "enumerate", data := .fields #[.none, .bool false, .ref s.heap.objs.size, rawInt 0, .none, .none] }) rfl
    rw [hz] at this; exact this
  refine ⟨⟨_, he, rfl⟩, h _ he (Heap.get?_push_of_some _ (Heap.get?_push_size _ B.free)) (by rw [Heap.size_push, hz]) fun b o x => Heap.get?_push_of_some _ (Heap.get?_push_of_some _ x)⟩
end

/-! ### lists and tuples alike -/
def IsSq (b : Bool) (h : Heap) (a : Addr) (its : Array Value) : Prop := match b with | true => h.IsList a its | false => h.IsTuple a its
def itO (b : Bool) (a : Addr) : Obj := match b with
  | true => { cls := .type "list_iterator", data := .fields #[.ref a, .int 0 0] }
  | false => { cls := .type "tuple_iterator", data := .fields #[.ref a, .int 0 0] }
def IsItr (b : Bool) (h : Heap) (it a : Addr) (i : Nat) : Prop := match b with | true => h.IsListIter it a i | false => h.IsTupleIter it a i
theorem begins_sq (b : Bool) (a : Addr) (its : Array Value) : Begins (.ref a) (itO b a) (fun h => IsSq b h a its) := by
  cases b with
  | true => exact begins_list a its
  | false => exact begins_tuple a its
theorem draws_sq {prog : Program} {w : World} {A : Around} (b : Bool) (hh : A.handled = none) (it a : Addr) (hne : a ≠ it) (its : Array Value) :
    Draws prog w A it [it, a] its.size (fun i v => its[i]? = some v) (fun i h => IsItr b h it a i ∧ IsSq b h a its) := by
  cases b with
  | true => exact Draws.list hh it a hne its
  | false => exact Draws.tuple hh it a hne its
theorem isItr_at {b : Bool} {h h' : Heap} {it a : Addr} {i : Nat} (x : IsItr b h it a i) (k : ∀ o, h.get? it = some o → h'.get? it = some o) : IsItr b h' it a i := by
  cases b with
  | true => exact Heap.IsListIter.at x k
  | false => exact Heap.IsTupleIter.at x k
theorem isItr_obj {b : Bool} {h : Heap} {it a : Addr} {i : Nat} (x : IsItr b h it a i) : ∃ o, h.get? it = some o ∧ ∀ v, o.data ≠ .cell v := by
  cases b with
  | true =>
    obtain ⟨o, e, c, d⟩ := x
    exact ⟨o, e, fun v z => by rw [d] at z; cases z⟩
  | false =>
    obtain ⟨o, e, c, d⟩ := x
    exact ⟨o, e, fun v z => by rw [d] at z; cases z⟩
theorem isItr_new {b : Bool} {h : Heap} {it a : Addr} (x : h.get? it = some (itO b a)) : IsItr b h it a 0 := by
  cases b with
  | true => exact ⟨_, x, rfl, rfl⟩
  | false => exact ⟨_, x, rfl, rfl⟩
def SqB (K : PySem.W.Frag) (b : Bool) (H : Hp) (a : Addr) (vs : List V) : Prop := match b with | true => SqL K H a vs | false => SqT K H a vs
theorem sqB {X : Cx} {pins : List (Addr × Obj)} {σ : L2.St} {H : Hp} {s : Shared} {b : Bool} {a : Addr} {vs : List V} (I : Inv X pins σ H s) (h : SqB X.K b H a vs) : ∃ its : List Value, Vals vs its ∧ IsSq b s.heap a its.toArray := by
  cases b with
  | true =>
    obtain ⟨its, rv, p, _⟩ := I.list h
    exact ⟨its, rv, p.isList⟩
  | false =>
    obtain ⟨its, rv, p, _⟩ := I.tuple h
    exact ⟨its, rv, p⟩
theorem isSq_lt {b : Bool} {h : Heap} {a : Addr} {its : Array Value} (x : IsSq b h a its) : a < h.objs.size := by
  cases b with
  | true => obtain ⟨o, e, _⟩ := x; exact Heap.lt_size e
  | false => obtain ⟨o, e, _⟩ := x; exact Heap.lt_size e

/-! ### an iterator of tuples -/
/-- n turns while G stands, a new tuple yv i each -/
def ItW (G : Hp → Prop) (n : Nat) (yv : Nat → List V) : It :=
  ⟨fun i H => i < n ∧ G H, fun i H v H' => ∃ T, v = .ref T ∧ H T = none ∧ H' = upd H T (.tup (yv i)), fun i H => i = n ∧ G H⟩
structure Wlk (X : Cx) (it : Addr) (fp : List Addr) (n : Nat) (yv : Nat → List V) (tn : Nat → Heap → Prop) (h : Heap) : Prop where
  ex : ∃ (fpW wr : List Addr) (Pt : Nat → Array Value → Prop) (St : Nat → Heap → Prop) (Mid : Nat → Addr → Heap → Prop), WalksT X.prog X.w X.A it fpW wr n Pt St Mid ∧ (∀ b ∈ wr, b ∈ fp) ∧ (∀ i, tn i h → St i h) ∧ (∀ i h, St i h → tn i h) ∧
    (∀ i vals, Pt i vals → Vals (yv i) vals.toList) ∧ ∀ i, (yv i).length ≤ sizeLine
theorem Wlk.of {X : Cx} {it : Addr} {fp : List Addr} {n : Nat} {yv : Nat → List V} {tn : Nat → Heap → Prop} {h : Heap} {fpW wr : List Addr} {Pt : Nat → Array Value → Prop} {St : Nat → Heap → Prop} {Mid : Nat → Addr → Heap → Prop} (W : WalksT X.prog X.w X.A it fpW wr n Pt St Mid)
    (h1 : ∀ b ∈ wr, b ∈ fp) (h2 : ∀ i, tn i h → St i h) (h3 : ∀ i h, St i h → tn i h) (h4 : ∀ i vals, Pt i vals → Vals (yv i) vals.toList) (h5 : ∀ i, (yv i).length ≤ sizeLine) : Wlk X it fp n yv tn h := ⟨fpW, wr, Pt, St, Mid, W, h1, h2, h3, h4, h5⟩
theorem turn_W {P : Program} {w : World} {K : PySem.W.Frag} {elts : List Expr} {kk : Nat} {tpos : Pos} {G : Hp → Prop} {n : Nat} {yv : Nat → List V} {it : Addr} {fp : List Addr} {tn : Nat → Heap → Prop} (mem : it ∈ fp)
    (obj : ∀ i h, tn i h → ∀ b ∈ fp, ∃ o, h.get? b = some o ∧ ∀ v, o.data ≠ .cell v) (keep : ∀ i h h', tn i h → (∀ b ∈ fp, ∀ o, h.get? b = some o → h'.get? b = some o) → tn i h')
    (self : ∀ (A : Around) (i : Nat) (s : Shared) (Q : Value → Shared → Prop) (E : Value → Shared → Prop), tn i s.heap → Q (.ref it) s → wpAny (model P w) A (pyIter (.ref it)) Q E s)
    (W : ∀ X : Cx, X.prog = P → X.w = w → X.K = K → X.calm = true → ∀ (pins : List (Addr × Obj)) (s : Shared) (σ : L2.St) (H : Hp), Inv X pins σ H s → G H → Wlk X it fp n yv tn s.heap) :
    Turn P w K (.Tuple elts kk tpos) (ItW G n yv) fp it tn where
  mem := mem
  obj := obj
  keep := keep
  item := by
    intro X hP hw hK hc i pins s σ H E I hf st hg
    obtain ⟨hi, hg⟩ := hg
    obtain ⟨fpW, wr, Pt, St, Mid, wt, hwr, to, from_, rel, sz⟩ := (W X hP hw hK hc pins s σ H I hg).ex
    subst hP hw hK
    refine wt.item i s _ _ hi (to i st) fun T vals h' tk hPt hsz hT hm hk => ⟨.ref T, rfl, ?_⟩
    have nT := wt.apart i T h' hm
    refine wt.go elts kk tpos i T { s with heap := h', toks := tk } _ _ hm fun h'' st'' hk'' => ?_
    have hT2 : h''.IsTuple T vals := by
      obtain ⟨o, e, r⟩ := hT
      exact ⟨o, hk'' T o nT e, r⟩
    have new : ObjOk X.prog X.w (upd H T (.tup (yv i))) h'' T (.tup (yv i)) := ⟨sz i, vals.toList, rel i vals hPt, by rw [show vals.toList.toArray = vals by simp]; exact hT2⟩
    have I1 : Inv X pins σ (upd H T (.tup (yv i))) { s with heap := h'', toks := tk } :=
      I.turnedNew (ch := wr) (fun b o hb e => hk'' b o hb (hk b o hb e)) (fun b hb => hf b (hwr b hb)) hsz new
    refine ⟨.ref T, _, I1, rfl, ⟨T, rfl, I.hok.fresh hsz, rfl⟩, from_ _ _ st'', fun b hb => ?_⟩
    have hlt : b < s.heap.objs.size := by
      obtain ⟨o, e, _⟩ := obj i _ st b hb
      exact Heap.lt_size e
    rw [upd_ne (show b ≠ T from fun e => by subst e; exact absurd hlt (Nat.not_lt.mpr hsz))]
    exact (hf b hb).1
  done := by
    intro X hP hw hK hc i pins s σ H E I hf st hg
    obtain ⟨hi, hg⟩ := hg
    obtain ⟨fpW, wr, Pt, St, Mid, wt, hwr, to, from_, rel, sz⟩ := (W X hP hw hK hc pins s σ H I hg).ex
    subst hP hw hK hi
    refine wt.done s _ _ (to _ st) fun h' tk hk => ⟨rfl, ?_⟩
    exact I.turnedL (t' := tk) (ch := wr) (fun b o hb e => hk b o hb e) fun b hb => hf b (hwr b hb)
  self := self

theorem val_get {ws : List V} {its : List Value} (r : Vals ws its) {i : Nat} {u : Value} (h : its.toArray[i]? = some u) : RelV (ws.getD i .non) u := by
  have h : its[i]? = some u := by simpa using h
  have hi : i < its.length := (List.getElem?_eq_some_iff.mp h).1
  have hi' : i < ws.length := by rw [r.length]; exact hi
  have hw : ws[i]? = some ws[i] := by simp [hi']
  obtain ⟨u', h1, h2⟩ := r.get hw
  rw [h] at h1
  cases h1
  rw [List.getD_eq_getElem?_getD, hw]
  exact h2
section
variable {X : Cx}
theorem pi_enumB {e : Expr} {ta : TA} {p pos tpos : Pos} {elts : List Expr} {kk : Nat} (hg : Gl X "enumerate") (hm : X.mg "enumerate" = none) (ha : PA X [e] ta) (hs : starEach [e] X.env = [(false, eval e X.env)]) :
    PI X (.Tuple elts kk tpos) (.Call (.Name "enumerate" p) [e] [] pos) (fun σ H R => ta σ H fun vs H1 => ∃ a b ws, vs = [.ref a] ∧ SqB X.K b H1 a ws ∧ R (ItW (fun H => SqB X.K b H a ws) ws.length fun i => [.int (i : Nat), ws.getD i .non]) H1) := by
  refine ⟨fun pins s σ H R I h => ?_⟩
  refine Call_ (ld_blt I hg hm boot_enumerate (PyProof.Rows.callWith_type1 (thn (ha.run pos pins s σ H _ I h) fun us s1 ⟨vs, H1, I1, r1, q1⟩ => ?_) hs rfl))
  obtain ⟨a, b, ws, ex, hq, q⟩ := q1
  subst ex
  obtain ⟨u, rfl, ru⟩ := Vals.one r1
  cases ru
  obtain ⟨its, rv, p'⟩ := sqB I1 hq
  have alt := isSq_lt p'
  refine enum_begins1 (begins_sq b a its.toArray) p' fun h' he hit hsz hk => wpAny_pyIter_enum he ?_
  have I2 : Inv X pins σ H1 { s1 with heap := h' } := I1.kept (t' := s1.toks) hk
  refine ⟨s1.heap.objs.size + 1, [s1.heap.objs.size + 1, s1.heap.objs.size], fun i h => (∃ old, IsEnum h (s1.heap.objs.size + 1) s1.heap.objs.size ((i : Nat) : Int) old) ∧ IsItr b h s1.heap.objs.size a i, _, H1, rfl, I2, ?_, ⟨⟨.none, he⟩, isItr_new hit⟩, fun c hc => ?_, q⟩
  · refine turn_W (by simp) (fun i h st c hc => ?_) (fun i h h' st k => ?_) (fun A i s Q E st hh => ?_) fun Y hP hw hK hc pins s σ H I hg => ?_
    · obtain ⟨⟨old, he⟩, ho⟩ := st
      have e' : c = s1.heap.objs.size + 1 ∨ c = s1.heap.objs.size := by simpa using hc
      rcases e' with z | z
      · rw [z]; exact ⟨_, he, fun v q => nomatch q⟩
      · rw [z]; exact isItr_obj ho
    · obtain ⟨⟨old, he⟩, ho⟩ := st
      exact ⟨⟨old, k _ (by simp) _ he⟩, isItr_at ho fun o q => k _ (by simp) o q⟩
    · obtain ⟨⟨old, he⟩, ho⟩ := st
      exact wpAny_pyIter_enum he hh
    · have hg' : SqB Y.K b H a ws := by rw [hK]; exact hg
      obtain ⟨its2, rv2, p2⟩ := sqB I hg'
      have hh : Y.A.in1.handled = none := I.ok.hd hc
      have W := WalksT.enumerateD (draws_sq (prog := Y.prog) (w := Y.w) (A := Y.A.in1) b hh s1.heap.objs.size a (Nat.ne_of_lt alt) its2.toArray) (s1.heap.objs.size + 1) (Nat.succ_ne_self _) (by
        intro m
        have e' : s1.heap.objs.size + 1 = s1.heap.objs.size ∨ s1.heap.objs.size + 1 = a := by simpa using m
        rcases e' with z | z
        · exact Nat.succ_ne_self _ z
        · exact absurd alt (by rw [← z]; exact Nat.not_lt.mpr (Nat.le_succ _))) (by simp)
      have en : its2.toArray.size = ws.length := by simp [rv2.length]
      rw [en] at W
      refine Wlk.of W (fun c hc => by simpa using hc) (fun i st => ⟨st.1, st.2, p2⟩) (fun i h st => ⟨st.1, st.2.1⟩) (fun i vals hp => ?_) fun i => by show 2 ≤ sizeLine; decide
      obtain ⟨t, x, hx, rfl⟩ := hp
      exact .cons ⟨t, rfl⟩ (.cons (val_get rv2 hx) .nil)
  · have e' : c = s1.heap.objs.size + 1 ∨ c = s1.heap.objs.size := by simpa using hc
    have hle : s1.heap.objs.size ≤ c := by
      rcases e' with z | z
      · rw [z]; exact Nat.le_add_right _ _
      · rw [z]; exact Nat.le_refl _
    exact I1.fpOk hle (I1.hok.fresh hle)
theorem pi_zipB {e1 e2 : Expr} {ta : TA} {p pos tpos : Pos} {elts : List Expr} {kk : Nat} (hg : Gl X "zip") (hm : X.mg "zip" = none) (ha : PA X [e1, e2] ta)
    (hs : starEach [e1, e2] X.env = (false, eval e1 X.env) :: starEach [e2] X.env) (hpl : (backTo pos (starEach [e2] X.env)).any (·.1) = false) :
    PI X (.Tuple elts kk tpos) (.Call (.Name "zip" p) [e1, e2] [] pos) (fun σ H R => ta σ H fun vs H1 => ∃ a b ka kb xs ys, vs = [.ref a, .ref b] ∧ SqB X.K ka H1 a xs ∧ SqB X.K kb H1 b ys ∧
      R (ItW (fun H => SqB X.K ka H a xs ∧ SqB X.K kb H b ys) (min xs.length ys.length) fun i => [xs.getD i .non, ys.getD i .non]) H1) := by
  refine ⟨fun pins s σ H R I h => ?_⟩
  refine Call_ (ld_blt I hg hm PyProof.Rows.boot_zip (PyProof.Rows.callWith_type1 (thn (ha.run pos pins s σ H _ I h) fun us s1 ⟨vs, H1, I1, r1, q1⟩ => ?_) hs hpl))
  obtain ⟨a, b, ka, kb, xs, ys, ex, hqa, hqb, q⟩ := q1
  subst ex
  obtain ⟨u, v, rfl, ru, rv⟩ := Vals.two r1
  cases ru
  cases rv
  obtain ⟨ita, rva, pa⟩ := sqB I1 hqa
  obtain ⟨itb, rvb, pb⟩ := sqB I1 hqb
  have alt := isSq_lt pa
  have blt := isSq_lt pb
  refine zip_begins2 (begins_sq ka a ita.toArray) (begins_sq kb b itb.toArray) pa pb fun h' hz hTI hTO h1 h2 hsz hk => wpAny_pyIter_zip hz ?_
  have I2 : Inv X pins σ H1 { s1 with heap := h' } := I1.kept (t' := s1.toks) hk
  generalize hN : s1.heap.objs.size = N at *
  have mem5 : ∀ {c}, c ∈ [N + 4, N + 2, N + 3, N, N + 1] → c = N + 4 ∨ c = N + 2 ∨ c = N + 3 ∨ c = N ∨ c = N + 1 := fun {c} hc => by simpa using hc
  refine ⟨N + 4, [N + 4, N + 2, N + 3, N, N + 1], fun i h => IsZip h (N + 4) (N + 2) (N + 3) .none ∧ IsTupOf2 h (N + 2) (.ref N) (.ref (N + 1)) ∧ (∃ a1 a2, IsTupOf2 h (N + 3) a1 a2) ∧ IsItr ka h N a i ∧ IsItr kb h (N + 1) b i, _, H1, rfl, I2, ?_,
    ⟨hz, hTI, ⟨_, _, hTO⟩, isItr_new h1, isItr_new h2⟩, fun c hc => ?_, q⟩
  · refine turn_W (by simp) (fun i h st c hc => ?_) (fun i h h' st k => ?_) (fun A i s Q E st hh => wpAny_pyIter_zip st.1 hh) fun Y hP hw hK hc pins s σ H I hg => ?_
    · obtain ⟨s1, s2, ⟨a1, a2, s3⟩, s4, s5⟩ := st
      rcases mem5 hc with z | z | z | z | z <;> rw [z]
      · exact ⟨_, s1, fun v q => nomatch q⟩
      · exact ⟨_, s2, fun v q => nomatch q⟩
      · exact ⟨_, s3, fun v q => nomatch q⟩
      · exact isItr_obj s4
      · exact isItr_obj s5
    · obtain ⟨s1, s2, ⟨a1, a2, s3⟩, s4, s5⟩ := st
      exact ⟨k _ (by simp) _ s1, k _ (by simp) _ s2, ⟨a1, a2, k _ (by simp) _ s3⟩, isItr_at s4 fun o q => k _ (by simp) o q, isItr_at s5 fun o q => k _ (by simp) o q⟩
    · have hga : SqB Y.K ka H a xs := by rw [hK]; exact hg.1
      have hgb : SqB Y.K kb H b ys := by rw [hK]; exact hg.2
      obtain ⟨ia, ra, p1⟩ := sqB I hga
      obtain ⟨ib, rb, p2⟩ := sqB I hgb
      have hh : Y.A.in1.handled = none := I.ok.hd hc
      have W := WalksT.zipD2 (zip_sep2 (N := N) (fp1 := [a]) (fp2 := [b]) (by simpa using alt) (by simpa using blt)) (draws_sq (prog := Y.prog) (w := Y.w) (A := Y.A.in1) ka hh N a (Nat.ne_of_lt alt) ia.toArray) (draws_sq (prog := Y.prog) (w := Y.w) (A := Y.A.in1) kb hh (N + 1) b (Nat.ne_of_lt (Nat.lt_succ_of_lt blt)) ib.toArray)
      have ea : ia.toArray.size = xs.length := by simp [ra.length]
      have eb : ib.toArray.size = ys.length := by simp [rb.length]
      rw [ea, eb] at W
      refine Wlk.of W (fun c hc => ?_) (fun i st => ⟨st.1, st.2.1, st.2.2.1, ⟨st.2.2.2.1, p1⟩, st.2.2.2.2, p2⟩) (fun i h st => ⟨st.1, st.2.1, st.2.2.1, st.2.2.2.1.1, st.2.2.2.2.1⟩) (fun i vals hp => ?_) fun i => by show 2 ≤ sizeLine; decide
      · have : c = N + 4 ∨ c = N + 3 ∨ c = N ∨ c = N + 1 := by simpa using hc
        rcases this with z | z | z | z <;> rw [z] <;> simp
      · obtain ⟨x, y, hx, hy, rfl⟩ := hp
        exact .cons (val_get ra hx) (.cons (val_get rb hy) .nil)
  · have hle : N ≤ c := by
      rcases mem5 hc with z | z | z | z | z <;> rw [z]
      · exact Nat.le_add_right _ _
      · exact Nat.le_add_right _ _
      · exact Nat.le_add_right _ _
      · exact Nat.le_refl _
      · exact Nat.le_add_right _ _
    rw [← hN] at hle
    exact I1.fpOk hle (I1.hok.fresh hle)
theorem pi_zipC {e1 e2 e3 : Expr} {ta : TA} {p pos tpos : Pos} {elts : List Expr} {kk : Nat} (hg : Gl X "zip") (hm : X.mg "zip" = none) (ha : PA X [e1, e2, e3] ta)
    (hs : starEach [e1, e2, e3] X.env = (false, eval e1 X.env) :: starEach [e2, e3] X.env) (hpl : (backTo pos (starEach [e2, e3] X.env)).any (·.1) = false) :
    PI X (.Tuple elts kk tpos) (.Call (.Name "zip" p) [e1, e2, e3] [] pos) (fun σ H R => ta σ H fun vs H1 => ∃ a b c ka kb kc xs ys zs, vs = [.ref a, .ref b, .ref c] ∧ SqB X.K ka H1 a xs ∧ SqB X.K kb H1 b ys ∧ SqB X.K kc H1 c zs ∧
      R (ItW (fun H => SqB X.K ka H a xs ∧ SqB X.K kb H b ys ∧ SqB X.K kc H c zs) (min (min xs.length ys.length) zs.length) fun i => [xs.getD i .non, ys.getD i .non, zs.getD i .non]) H1) := by
  refine ⟨fun pins s σ H R I h => ?_⟩
  refine Call_ (ld_blt I hg hm PyProof.Rows.boot_zip (PyProof.Rows.callWith_type1 (thn (ha.run pos pins s σ H _ I h) fun us s1 ⟨vs, H1, I1, r1, q1⟩ => ?_) hs hpl))
  obtain ⟨a, b, c3, ka, kb, kc, xs, ys, zs, ex, hqa, hqb, hqc, q⟩ := q1
  subst ex
  have r3 : ∃ u v w, us = [u, v, w] ∧ RelV (.ref a) u ∧ RelV (.ref b) v ∧ RelV (.ref c3) w := by
    cases r1 with
    | cons q1 r1 =>
      obtain ⟨u, v, rfl, h1, h2⟩ := Vals.two r1
      exact ⟨_, _, _, rfl, q1, h1, h2⟩
  obtain ⟨u, v, w, rfl, ru, rv, rw'⟩ := r3
  cases ru
  cases rv
  cases rw'
  obtain ⟨ita, rva, pa⟩ := sqB I1 hqa
  obtain ⟨itb, rvb, pb⟩ := sqB I1 hqb
  obtain ⟨itc, rvc, pc⟩ := sqB I1 hqc
  have alt := isSq_lt pa
  have blt := isSq_lt pb
  have clt := isSq_lt pc
  refine zip_begins3 (begins_sq ka a ita.toArray) (begins_sq kb b itb.toArray) (begins_sq kc c3 itc.toArray) pa pb pc fun h' hz hTI hTO h1 h2 h3 hsz hk => wpAny_pyIter_zip hz ?_
  have I2 : Inv X pins σ H1 { s1 with heap := h' } := I1.kept (t' := s1.toks) hk
  generalize hN : s1.heap.objs.size = N at *
  have mem6 : ∀ {c}, c ∈ [N + 5, N + 3, N + 4, N, N + 1, N + 2] → c = N + 5 ∨ c = N + 3 ∨ c = N + 4 ∨ c = N ∨ c = N + 1 ∨ c = N + 2 := fun {c} hc => by simpa using hc
  refine ⟨N + 5, [N + 5, N + 3, N + 4, N, N + 1, N + 2], fun i h => IsZip h (N + 5) (N + 3) (N + 4) .none ∧ IsTupOf3 h (N + 3) (.ref N) (.ref (N + 1)) (.ref (N + 2)) ∧ (∃ a1 a2 a3, IsTupOf3 h (N + 4) a1 a2 a3) ∧ IsItr ka h N a i ∧ IsItr kb h (N + 1) b i ∧ IsItr kc h (N + 2) c3 i, _, H1, rfl, I2, ?_,
    ⟨hz, hTI, ⟨_, _, _, hTO⟩, isItr_new h1, isItr_new h2, isItr_new h3⟩, fun c hc => ?_, q⟩
  · refine turn_W (by simp) (fun i h st c hc => ?_) (fun i h h' st k => ?_) (fun A i s Q E st hh => wpAny_pyIter_zip st.1 hh) fun Y hP hw hK hc pins s σ H I hg => ?_
    · obtain ⟨s1, s2, ⟨a1, a2, a3, s3⟩, s4, s5, s6⟩ := st
      rcases mem6 hc with z | z | z | z | z | z <;> rw [z]
      · exact ⟨_, s1, fun v q => nomatch q⟩
      · exact ⟨_, s2, fun v q => nomatch q⟩
      · exact ⟨_, s3, fun v q => nomatch q⟩
      · exact isItr_obj s4
      · exact isItr_obj s5
      · exact isItr_obj s6
    · obtain ⟨s1, s2, ⟨a1, a2, a3, s3⟩, s4, s5, s6⟩ := st
      exact ⟨k _ (by simp) _ s1, k _ (by simp) _ s2, ⟨a1, a2, a3, k _ (by simp) _ s3⟩, isItr_at s4 fun o q => k _ (by simp) o q, isItr_at s5 fun o q => k _ (by simp) o q, isItr_at s6 fun o q => k _ (by simp) o q⟩
    · have hga : SqB Y.K ka H a xs := by rw [hK]; exact hg.1
      have hgb : SqB Y.K kb H b ys := by rw [hK]; exact hg.2.1
      have hgc : SqB Y.K kc H c3 zs := by rw [hK]; exact hg.2.2
      obtain ⟨ia, ra, p1⟩ := sqB I hga
      obtain ⟨ib, rb, p2⟩ := sqB I hgb
      obtain ⟨ic, rc, p3⟩ := sqB I hgc
      have hh : Y.A.in1.handled = none := I.ok.hd hc
      have W := WalksT.zipD3 (zip_sep3 (N := N) (fp1 := [a]) (fp2 := [b]) (fp3 := [c3]) (by simpa using alt) (by simpa using blt) (by simpa using clt)) (draws_sq (prog := Y.prog) (w := Y.w) (A := Y.A.in1) ka hh N a (Nat.ne_of_lt alt) ia.toArray)
        (draws_sq (prog := Y.prog) (w := Y.w) (A := Y.A.in1) kb hh (N + 1) b (Nat.ne_of_lt (Nat.lt_succ_of_lt blt)) ib.toArray) (draws_sq (prog := Y.prog) (w := Y.w) (A := Y.A.in1) kc hh (N + 2) c3 (Nat.ne_of_lt (Nat.lt_succ_of_lt (Nat.lt_succ_of_lt clt))) ic.toArray)
      have ea : ia.toArray.size = xs.length := by simp [ra.length]
      have eb : ib.toArray.size = ys.length := by simp [rb.length]
      have ec : ic.toArray.size = zs.length := by simp [rc.length]
      rw [ea, eb, ec] at W
      refine Wlk.of W (fun c hc => ?_) (fun i st => ⟨st.1, st.2.1, st.2.2.1, ⟨st.2.2.2.1, p1⟩, ⟨st.2.2.2.2.1, p2⟩, st.2.2.2.2.2, p3⟩) (fun i h st => ⟨st.1, st.2.1, st.2.2.1, st.2.2.2.1.1, st.2.2.2.2.1.1, st.2.2.2.2.2.1⟩) (fun i vals hp => ?_) fun i => by show 3 ≤ sizeLine; decide
      · have : c = N + 5 ∨ c = N + 4 ∨ c = N ∨ c = N + 1 ∨ c = N + 2 := by simpa using hc
        rcases this with z | z | z | z | z <;> rw [z] <;> simp
      · obtain ⟨x, y, z, hx, hy, hz, rfl⟩ := hp
        exact .cons (val_get ra hx) (.cons (val_get rb hy) (.cons (val_get rc hz) .nil))
  · have hle : N ≤ c := by
      rcases mem6 hc with z | z | z | z | z | z <;> rw [z]
      · exact Nat.le_add_right _ _
      · exact Nat.le_add_right _ _
      · exact Nat.le_add_right _ _
      · exact Nat.le_refl _
      · exact Nat.le_add_right _ _
      · exact Nat.le_add_right _ _
    rw [← hN] at hle
    exact I1.fpOk hle (I1.hok.fresh hle)
end
end PL

end
section
set_option maxHeartbeats 1000000
/-! PLz: zip over any number of lists and tuples, each tuple bound to a name (the zip keeps the tuple that it gave out). -/
namespace PL
open PySem PySem.Spec L2
open PyProof.Rows hiding St
open PySem (Draws)

/-- what is zipped: list or tuple, where, its items -/
abbrev Srcs := List (Bool × Addr × List Value)
section
variable {M : Model} {prog : Program} {w : World} {A : Around} {E : Value → Shared → Prop} {s : Shared}
/-- a for of the library's code, by an invariant; E may be left at any turn -/
theorem forIn_inv {α β : Type} {l : List α} {f : α → β → Sem (ForInStep β)} {Q : β → Shared → Prop} (Iv : Nat → β → Shared → Prop) {b : β}
    (hs : ∀ k x b s, l[k]? = some x → Iv k b s → wpAny M A (f x b) (fun r s' => ∃ b', r = .yield b' ∧ Iv (k + 1) b' s') E s) (h0 : Iv 0 b s) (hq : ∀ b s, Iv l.length b s → Q b s) : wpAny M A (forIn l b f) Q E s := by
  suffices h : ∀ (r : List α) (k : Nat) (b : β) (s : Shared), k + r.length = l.length → (∀ j, r[j]? = l[k + j]?) → Iv k b s → wpAny M A (forIn r b f) Q E s from h l 0 b s (by omega) (fun j => by rw [Nat.zero_add]) h0
  intro r
  induction r with
  | nil =>
    intro k b s e _ i
    rw [List.forIn_nil]
    have hk : k = l.length := by simpa using e
    subst hk
    exact wpAny_pure (hq b s i)
  | cons x r ih =>
    intro k b s e g i
    rw [List.forIn_cons]
    refine wpAny_bind (wpAny_mono (hs k x b s (by have := g 0; simpa using this.symm) i) (fun r' s' h => ?_) fun _ _ q => q)
    obtain ⟨b', rfl, i'⟩ := h
    exact ih (k + 1) b' s' (by simp at e; omega) (fun j => by have := g (j + 1); rw [show k + 1 + j = k + (j + 1) by omega, ← this]; simp) i'
/-- the sources' iterators at their turns -/
def SI (N : Nat) (S : Srcs) (p : Nat → Nat) (h : Heap) : Prop := ∀ (j : Nat) (b : Bool) (a : Addr) (its : List Value), S[j]? = some (b, a, its) → IsItr b h (N + j) a (p j) ∧ IsSq b h a its.toArray
/-- the zip itself, the tuple of its iterators, its own tuple -/
structure ZS (N : Nat) (S : Srcs) (v : Value) (f : Bool) (h : Heap) : Prop where
  z : h.get? (N + S.length + 2) = some { cls := .type "zip", dict := none, data := .fields #[v, .bool f, .bool false, .ref (N + S.length), .ref (N + S.length + 1)], slots := #[] }
  ti : ∃ n, h.get? (N + S.length) = some { cls := .type "tuple", data := .seq ((List.range S.length).map fun j => Value.ref (N + j)).toArray n }
  to : ∃ (ws : List Value) (n : Nat), ws.length = S.length ∧ h.get? (N + S.length + 1) = some { cls := .type "tuple", data := .seq ws.toArray n }
def Apart (N : Nat) (S : Srcs) : Prop := ∀ (j : Nat) (b : Bool) (a : Addr) (its : List Value), S[j]? = some (b, a, its) → a < N
theorem isSq_at {b : Bool} {h h' : Heap} {a : Addr} {its : Array Value} (x : IsSq b h a its) (k : ∀ o, h.get? a = some o → h'.get? a = some o) : IsSq b h' a its := by
  cases b with
  | true => exact Heap.IsList.at x k
  | false => exact Heap.IsTuple.at x k
/-- .. behind a change at an address that is none of theirs -/
theorem SI.other {N : Nat} {S : Srcs} {p : Nat → Nat} {h h' : Heap} (x : SI N S p h) (ap : Apart N S) {c : Nat} (hc : N + S.length ≤ c) (k : ∀ (b : Nat) o, b ≠ c → h.get? b = some o → h'.get? b = some o) : SI N S p h' := fun (j : Nat) (b : Bool) (a : Nat) its e => by
  obtain ⟨h1, h2⟩ := x j b a its e
  have hj : j < S.length := (List.getElem?_eq_some_iff.mp e).1
  have ha : a < N := ap j b a its e
  have n1 : N + j ≠ c := by omega
  have n2 : a ≠ c := by omega
  exact ⟨isItr_at h1 fun o q => k _ o n1 q, isSq_at h2 fun o q => k _ o n2 q⟩
/-- .. behind one turn of the j-th -/
theorem SI.turn {N : Nat} {S : Srcs} {p q : Nat → Nat} {h h' : Heap} (x : SI N S p h) (ap : Apart N S) {j : Nat} {b : Bool} {a : Addr} {its : List Value} (e : S[j]? = some (b, a, its)) (hit : IsItr b h' (N + j) a (q j)) (hq : ∀ i, i ≠ j → q i = p i) (k : ∀ (c : Nat) o, c ≠ N + j → h.get? c = some o → h'.get? c = some o) :
    SI N S q h' := fun (i : Nat) (b' : Bool) (a' : Nat) its' e' => by
  obtain ⟨h1, h2⟩ := x i b' a' its' e'
  have hi : i < S.length := (List.getElem?_eq_some_iff.mp e').1
  have ha : a' < N := ap i b' a' its' e'
  have n2 : a' ≠ N + j := by omega
  refine ⟨?_, isSq_at h2 fun o q => k _ o n2 q⟩
  by_cases hij : i = j
  · subst hij
    rw [e] at e'
    cases e'
    exact hit
  · have n1 : N + i ≠ N + j := by omega
    rw [hq i hij]
    exact isItr_at h1 fun o q => k _ o n1 q
theorem ZS.other {N : Nat} {S : Srcs} {v : Value} {f : Bool} {h h' : Heap} (x : ZS N S v f h) (k : ∀ b o, N + S.length ≤ b → h.get? b = some o → h'.get? b = some o) : ZS N S v f h' :=
  ⟨k _ _ (by omega) x.z, let ⟨n, q⟩ := x.ti; ⟨n, k _ _ (Nat.le_refl _) q⟩, let ⟨ws, n, l, q⟩ := x.to; ⟨ws, n, l, k _ _ (by omega) q⟩⟩
/-- what may have changed: the zip, its own tuple, the iterators -/
def ZK (N : Nat) (S : Srcs) (h h' : Heap) : Prop := ∀ c o, (c < N ∨ c = N + S.length ∨ N + S.length + 2 < c) → h.get? c = some o → h'.get? c = some o
theorem alive_any {a : Addr} {Q : Option Obj → Shared → Prop} (h : ∀ o, Q o s) : wpAny (model prog w) A (loadIfAlive a) Q E s := by
  have q : Q (s.heap.get? a) s := h _
  exact fun _ _ _ => q
/-- the zip asks if its tuple came back -/
theorem zip_free {N : Nat} {S : Srcs} {v : Value} {f : Bool} {Q : Bool → Shared → Prop} (hz : ZS N S v f s.heap) (hv : v = .none ∨ ∃ T : Nat, v = rawInt T)
    (h : ∀ c f' h', ZS N S v f' h' → (∀ b o, b ≠ N + S.length + 2 → s.heap.get? b = some o → h'.get? b = some o) → s.heap.objs.size = h'.objs.size → Q c { s with heap := h' }) : wpAny (model prog w) A (Builtin.SmallTypes.ownedTupleIsFree (.ref (N + S.length + 2))) Q E s := by
  unfold Builtin.SmallTypes.ownedTupleIsFree
  rcases hv with rfl | ⟨T, rfl⟩
  · refine wpAny_bind (wpAny_field hz.z rfl (x := .none) rfl ?_)
    exact wpAny_pure (h true f s.heap hz (fun _ _ _ e => e) rfl)
  · refine wpAny_bind (wpAny_field hz.z rfl (x := rawInt T) rfl ?_)
    show wpAny _ _ (loadIfAlive ((T : Int).toNat) >>= _) _ _ _
    refine wpAny_bind (alive_any fun o => ?_)
    cases o with
    | none =>
      simp only [Option.isNone_none, if_true]
      exact wpAny_pure (h true f s.heap hz (fun _ _ _ e => e) rfl)
    | some o =>
      simp only [Option.isNone_some, Bool.false_eq_true, if_false]
      refine wpAny_bind (wpAny_field hz.z rfl (x := .bool f) rfl ?_)
      cases f with
      | true =>
        rw [if_neg (by decide)]
        exact wpAny_pure (h false true s.heap hz (fun _ _ _ e => e) rfl)
      | false =>
        rw [if_pos (by decide)]
        refine wpAny_bind (wpAny_setField_rec hz.z (by simp) fun h1 hz1 hs1 => wpAny_pure ?_)
        refine h false true h1 ⟨hz1, ?_, ?_⟩ (fun b o hb e => hs1.extBut b o hb e) hs1.1.symm
        · obtain ⟨n, q⟩ := hz.ti
          exact ⟨n, hs1.extBut _ _ (by show N + S.length ≠ N + S.length + 2; omega) q⟩
        · obtain ⟨ws, n, l, q⟩ := hz.to
          exact ⟨ws, n, l, hs1.extBut _ _ (by show N + S.length + 1 ≠ N + S.length + 2; omega) q⟩
/-- the j-th item of each source that has been drawn so far -/
def Drew (S : Srcs) (i k : Nat) (xs : List Value) : Prop := xs.length = k ∧ ∀ (j : Nat) (b : Bool) (a : Addr) (its : List Value), j < k → S[j]? = some (b, a, its) → its[i]? = xs[j]? ∧ i < its.length
theorem Drew.snoc {S : Srcs} {i k : Nat} {xs : List Value} (d : Drew S i k xs) {b : Bool} {a : Addr} {its : List Value} {x : Value} (e : S[k]? = some (b, a, its)) (hx : its[i]? = some x) : Drew S i (k + 1) (xs ++ [x]) := by
  obtain ⟨l, d⟩ := d
  refine ⟨by simp [l], fun j b' a' its' hj e' => ?_⟩
  by_cases hjk : j < k
  · obtain ⟨q1, q2⟩ := d j b' a' its' hjk e'
    exact ⟨by rw [q1, List.getElem?_append_left (by omega)], q2⟩
  · have : j = k := by omega
    subst this
    rw [e] at e'
    cases e'
    refine ⟨?_, (List.getElem?_eq_some_iff.mp hx).1⟩
    rw [hx, List.getElem?_append_right (by omega), l]
    simp
theorem zipN_body {N : Nat} {S : Srcs} {i : Nat} {v : Value} {f : Bool} {Q : Fin → Shared → Prop} (hh : A.handled = none) (ap : Apart N S) (hn : 0 < S.length) (hsz : S.length ≤ sizeLine) (hz : ZS N S v f s.heap) (hv : v = .none ∨ ∃ T : Nat, v = rawInt T) (hi : SI N S (fun _ => i) s.heap) (hlt : N + S.length + 2 < s.heap.objs.size)
    (hle : ∀ (j : Nat) (b : Bool) (a : Addr) (its : List Value), S[j]? = some (b, a, its) → i ≤ its.length)
    (hQ : ∀ xs h' tk v' f', Drew S i S.length xs → ZS N S v' f' h' → (v' = .none ∨ ∃ T : Nat, v' = rawInt T) → SI N S (fun _ => i + 1) h' → h'.get? s.heap.objs.size = some { cls := .type "tuple", data := .seq xs.toArray } →
      (∀ c o, (c < N ∨ N + S.length + 2 < c) → s.heap.get? c = some o → h'.get? c = some o) → Q (.done (.ret (.ref s.heap.objs.size))) { s with heap := h', toks := tk })
    (hE : (∃ (j : Nat) (b : Bool) (a : Addr) (its : List Value), S[j]? = some (b, a, its) ∧ i = its.length) → ∀ h' tk e, (∀ c o, (c < N ∨ N + S.length + 2 < c) → s.heap.get? c = some o → h'.get? c = some o) → (∃ o, h'.get? e = some o ∧ o.cls = .type "StopIteration") → E (.ref e) { s with heap := h', toks := tk }) :
    wpAny (model prog w) A (Builtin.«zip.__next__» ⟨[.ref (N + S.length + 2)], []⟩) Q E s := by
  obtain ⟨hp, g, d, tk0, os⟩ := s
  obtain ⟨nti, hti⟩ := hz.ti
  show wpAny _ _ (field (.ref (N + S.length + 2)) 2 >>= _) _ _ _
  refine wpAny_bind (wpAny_field hz.z rfl (x := .bool false) rfl ?_)
  show wpAny _ _ (field (.ref (N + S.length + 2)) 3 >>= _) _ _ _
  refine wpAny_bind (wpAny_field hz.z rfl (x := .ref (N + S.length)) rfl ?_)
  refine wpAny_bind (wpAny_seqItems hti rfl ?_)
  have ne : (((List.range S.length).map fun j => Value.ref (N + j)).toArray).isEmpty = false := by
    cases S with
    | nil => simp at hn
    | cons a b => simp [Array.isEmpty]
  simp only [ne, Bool.false_eq_true, if_false]
  refine wpAny_bind (zip_free (s := ⟨hp, g, d, tk0, os⟩) hz hv fun c f1 h1 hz1 k1 sz1 => ?_)
  have hi1 : SI N S (fun _ => i) h1 := hi.other ap (c := N + S.length + 2) (by omega) k1
  have turn : ∀ {j : Nat} {b : Bool} {a : Addr} {its : List Value} {h2 : Heap} {tk : Nat} {p : Nat → Nat} {R : Option Value → Shared → Prop} {E2 : Value → Shared → Prop}, S[j]? = some (b, a, its) → SI N S p h2 → p j = i →
      (∀ x h3 tk', its[i]? = some x → SI N S (fun m => if m = j then i + 1 else p m) h3 → (∀ (c : Nat) o, c ≠ N + j → h2.get? c = some o → h3.get? c = some o) → h3.objs.size = h2.objs.size → R (some x) ⟨h3, g, d, tk', os⟩) →
      (i = its.length → ∀ h3 e, (∀ (c : Nat) o, c ≠ N + j → h2.get? c = some o → h3.get? c = some o) → (∃ o, h3.get? e = some o ∧ o.cls = .type "StopIteration") → E2 (.ref e) ⟨h3, g, d, tk, os⟩) →
      wpAny (model prog w) A (Builtin.SmallTypes.nextOf (.ref (N + j)) >>= fun r => pure (some r)) R E2 ⟨h2, g, d, tk, os⟩ := fun {j b a its h2 tk p R E2} e si pj hr he => by
    obtain ⟨q1, q2⟩ := si j b a its e
    have ha : (a : Nat) < N := ap j b a its e
    have D := draws_sq (prog := prog) (w := w) (A := A) b hh (N + j) a (Nat.ne_of_lt (Nat.lt_of_lt_of_le ha (Nat.le_add_right N j))) its.toArray
    rw [pj] at q1
    have hl := hle j b a its e
    by_cases hi2 : i < its.length
    · refine wpAny_bind (D.item i _ _ _ (by simpa using hi2) ⟨q1, q2⟩ fun x h3 tk' hx st sb => wpAny_pure ?_)
      have k3 : ∀ (c : Nat) o, c ≠ N + j → h2.get? c = some o → h3.get? c = some o := fun c o n q => Heap.SameBut.extBut sb c o n q
      exact hr x h3 tk' (by simpa using hx) (si.turn ap e (by simpa using st.1) (fun m hm => by simp [hm]) k3) k3 sb.1
    · have hi3 : i = its.length := by omega
      refine wpAny_bind (D.done _ _ _ (by rw [show its.toArray.size = i by simp [hi3]]; exact ⟨q1, q2⟩) fun h3 e' k3 o => ?_)
      exact he hi3 h3 e' (fun c o n q => k3 c o n q) o
  cases c with
  | false =>
    simp only [Bool.false_eq_true, if_false]
    refine wpAny_bind ?_
    rw [← Array.forIn_toList]
    refine forIn_inv (fun k st s' => ∃ xs h2 tk, st = (none, xs.toArray) ∧ s' = ⟨h2, g, d, tk, os⟩ ∧ Drew S i k xs ∧ SI N S (fun m => if m < k then i + 1 else i) h2 ∧ ZS N S v f1 h2 ∧ (∀ (c : Nat) o, (c < N ∨ N + S.length ≤ c) → h1.get? c = some o → h2.get? c = some o) ∧ h2.objs.size = h1.objs.size)
      (fun k x st s' hx ⟨xs, h2, tk, e1, e2, dr, si, zs, kk, sz⟩ => ?_) ⟨[], h1, tk0, rfl, rfl, ⟨rfl, fun j b a its hj => by omega⟩, by simpa using hi1, hz1, fun _ _ _ q => q, rfl⟩ (fun st s' ⟨xs, h2, tk, e1, e2, dr, si, zs, kk, sz⟩ => ?_)
    · subst e1 e2
      have hk : k < S.length := by
        have := (List.getElem?_eq_some_iff.mp hx).1
        simpa using this
      have hx : x = .ref (N + k) := by
        rw [show (((List.range S.length).map fun j => Value.ref (N + j)).toArray.toList) = (List.range S.length).map fun j => Value.ref (N + j) from rfl, List.getElem?_map, List.getElem?_range hk] at hx
        cases hx
        rfl
      subst hx
      obtain ⟨b, a, its, e⟩ : ∃ b a its, S[k]? = some (b, a, its) := ⟨_, _, _, List.getElem?_eq_getElem hk⟩
      refine wpAny_bind (wpAny_holding ?_)
      show wpAny _ _ (Builtin.SmallTypes.nextOf (.ref (N + k)) >>= fun r => pure (some r)) _ _ _
      refine turn e si (by simp) (fun y h3 tk' hy si3 k3 sz3 => ?_) fun hend h3 e' k3 he' => ?_
      · refine wpAny_pure ⟨_, rfl, xs ++ [y], h3, tk', by simp, rfl, dr.snoc e hy, ?_, zs.other fun b o hb q => k3 b o (by omega) q, fun c o hc q => k3 c o (by omega) (kk c o hc q), sz3.trans sz⟩
        have : (fun m => if m = k then i + 1 else if m < k then i + 1 else i) = fun m => if m < k + 1 then i + 1 else i := by
          funext m
          by_cases h1 : m = k
          · simp [h1]
          · by_cases h2 : m < k
            · simp [h1, h2, show m < k + 1 by omega]
            · simp [h1, h2, show ¬ m < k + 1 by omega]
        rw [← this]
        exact si3
      · exact hE ⟨k, b, a, its, e, hend⟩ h3 tk e' (fun c o hc q => k3 c o (by omega) (kk c o (by omega) (k1 c o (by omega) q))) he'
    · subst e1 e2
      have lx : xs.length = S.length := by simpa using dr.1
      have szA : h2.objs.size = hp.objs.size := by rw [sz, ← sz1]
      refine wpAny_bind (wpAny_newTuple ?_ (by show xs.length ≤ sizeLine; omega))
      refine wpAny_pure ?_
      have pk : ∀ (c : Nat) o, h2.get? c = some o → (h2.push { cls := .type "tuple", data := .seq xs.toArray }).get? c = some o := fun c o q => Heap.get?_push_of_some _ q
      have dr' : Drew S i S.length xs := by simpa using dr
      have si' : SI N S (fun _ => i + 1) h2 := fun j b a its e => by
        have hj : j < S.length := (List.getElem?_eq_some_iff.mp e).1
        have := si j b a its e
        simpa [hj] using this
      have fin := hQ xs (h2.push { cls := .type "tuple", data := .seq xs.toArray }) tk v f1 dr' (zs.other fun b o _ q => pk b o q) hv (fun j b a its e => ⟨isItr_at (si' j b a its e).1 fun o q => pk _ o q, isSq_at (si' j b a its e).2 fun o q => pk _ o q⟩)
        (by have := Heap.get?_push_size h2 (o := { cls := .type "tuple", data := .seq xs.toArray }) rfl; rw [szA] at this; exact this) (fun c o hc q => pk c o (kk c o (by omega) (k1 c o (by omega) q)))
      show Q (.done (.ret (.ref h2.objs.size))) _
      rw [szA]
      exact fin
  | true =>
    simp only [if_true]
    refine wpAny_bind (wpAny_rule ?_)
    obtain ⟨ws, nto, lto, hto⟩ := hz1.to
    refine wpAny_bind (wpAny_field hz1.z rfl (x := .ref (N + S.length + 1)) rfl ?_)
    refine wpAny_bind (wpAny_setField_rec (s := ⟨h1, g, d, tk0, os⟩) hz1.z (by simp) fun h2 hz2 hs2 => ?_)
    refine wpAny_bind ?_
    have hto2 : h2.get? (N + S.length + 1) = some { cls := .type "tuple", data := .seq ws.toArray nto } := hs2.extBut _ _ (by show N + S.length + 1 ≠ N + S.length + 2; omega) hto
    have hi2 : SI N S (fun _ => i) h2 := hi1.other ap (c := N + S.length + 2) (by omega) fun b o n q => hs2.extBut b o n q
    refine forIn_inv (fun k st s' => ∃ xs ys h3 tk, st = (none, ()) ∧ s' = ⟨h3, g, d, tk, os⟩ ∧ Drew S i k xs ∧ SI N S (fun m => if m < k then i + 1 else i) h3 ∧ k + ys.length = S.length ∧ h3.get? (N + S.length + 1) = some { cls := .type "tuple", data := .seq (xs ++ ys).toArray nto } ∧
        h3.get? (N + S.length + 2) = some { cls := .type "zip", dict := none, data := .fields #[.ellipsis, .bool f1, .bool false, .ref (N + S.length), .ref (N + S.length + 1)], slots := #[] } ∧ (∀ (c : Nat) o, (c < N ∨ c = N + S.length ∨ N + S.length + 2 < c) → h1.get? c = some o → h3.get? c = some o) ∧ h3.objs.size = h1.objs.size)
      (fun k x st s' hx ⟨xs, ys, h3, tk, e1, e2, dr, si, ly, to3, z3, kk, sz⟩ => ?_)
      ⟨[], ws, h2, tk0, rfl, rfl, ⟨rfl, fun j b a its hj => by omega⟩, by simpa using hi2, by omega, hto2, hz2, fun c o hc q => hs2.extBut c o (by show (c : Nat) ≠ N + S.length + 2; omega) q, hs2.1⟩
      (fun st s' ⟨xs, ys, h3, tk, e1, e2, dr, si, ly, to3, z3, kk, sz⟩ => ?_)
    · subst e1 e2
      have hk : k < S.length := by
        have := (List.getElem?_eq_some_iff.mp hx).1
        simpa using this
      have hx : x = (.ref (N + k), k) := by
        rw [List.getElem?_zipIdx, List.getElem?_map, List.getElem?_range hk] at hx
        simp at hx
        exact hx.symm
      subst hx
      obtain ⟨b, a, its, e⟩ : ∃ b a its, S[k]? = some (b, a, its) := ⟨_, _, _, List.getElem?_eq_getElem hk⟩
      refine wpAny_bind (wpAny_onRaise ?_)
      show wpAny _ _ (Builtin.SmallTypes.nextOf (.ref (N + k)) >>= fun r => pure (some r)) _ _ _
      refine turn e si (by simp) (fun y h4 tk' hy si4 k4 sz4 => ?_) fun hend h4 e' k4 he' => ?_
      · have to4 := k4 (N + S.length + 1) _ (by omega) to3
        refine wpAny_bind (wpAny_seqItems (s := ⟨h4, g, d, tk', os⟩) to4 rfl ?_)
        have lxy : (xs ++ ys).length = S.length := by rw [List.length_append, dr.1]; omega
        refine wpAny_bind (wpAny_updateSeq (s := ⟨h4, g, d, tk', os⟩) to4 rfl ?_ (by rw [List.size_toArray, lxy]; exact hsz) (by rw [Array.size_setIfInBounds, List.size_toArray, lxy]; omega))
        refine wpAny_bind (wpAny_letGo (wpAny_pure ⟨_, rfl, xs ++ [y], ys.tail, h4.update (N + S.length + 1) (Obj.mapSeq (·.setIfInBounds k y)), tk', rfl, rfl, dr.snoc e hy, ?_, ?_, ?_, ?_, ?_, ?_⟩))
        · have p : (fun m => if m = k then i + 1 else if m < k then i + 1 else i) = fun m => if m < k + 1 then i + 1 else i := by
            funext m
            by_cases g1 : m = k
            · simp [g1]
            · by_cases g2 : m < k
              · simp [g1, g2, show m < k + 1 by omega]
              · simp [g1, g2, show ¬ m < k + 1 by omega]
          rw [← p]
          exact si4.other ap (c := N + S.length + 1) (by omega) fun b o n q => (Heap.get?_update_other _ _ (Ne.symm n)).trans q
        · rw [List.length_tail]; omega
        · rw [Heap.get?_update_self _ to4 rfl]
          cases ys with
          | nil => simp at ly; omega
          | cons y0 ys =>
            have lk : xs.length = k := dr.1
            simp [Obj.mapSeq, ← lk]
        · exact (Heap.get?_update_other _ _ (show N + S.length + 1 ≠ N + S.length + 2 by omega)).trans (k4 _ _ (by omega) z3)
        · exact fun c o hc q => (Heap.get?_update_other _ _ (show N + S.length + 1 ≠ c by omega)).trans (k4 c o (by omega) (kk c o hc q))
        · rw [Heap.size_update]; exact sz4.trans sz
      · have z4 := k4 (N + S.length + 2) _ (by omega) z3
        obtain ⟨oe, hoe, hce⟩ := he'
        refine wpAny_setField_rec (s := ⟨h4, g, d, tk, os⟩) z4 (by simp) fun h5 hz5 hs5 => ?_
        have ne : e' ≠ N + S.length + 2 := fun q => by
          subst q
          rw [z4] at hoe
          cases hoe
          simp at hce
        exact hE ⟨k, b, a, its, e, hend⟩ h5 tk e' (fun c o hc q => hs5.extBut c o (by show (c : Nat) ≠ N + S.length + 2; omega) (k4 c o (by omega) (kk c o (by omega) (k1 c o (by omega) q)))) ⟨oe, hs5.extBut _ _ ne hoe, hce⟩
    · subst e1 e2
      have lx : xs.length = S.length := by simpa using dr.1
      have ly : ys = [] := by simpa using ly
      subst ly
      rw [List.append_nil] at to3
      have szA : h3.objs.size = hp.objs.size := by rw [sz, ← sz1]
      refine wpAny_bind (wpAny_seqItems (s := ⟨h3, g, d, tk, os⟩) to3 rfl ?_)
      refine wpAny_bind (wpAny_newTuple ?_ (by show xs.length ≤ sizeLine; omega))
      have z4 : (h3.push { cls := .type "tuple", data := .seq xs.toArray }).get? (N + S.length + 2) = _ := Heap.get?_push_of_some _ z3
      show wpAny _ _ (Builtin.SmallTypes.ownedTupleHandOut (.ref (N + S.length + 2)) (.ref h3.objs.size) >>= _) _ _ ⟨h3.push { cls := .type "tuple", data := .seq xs.toArray }, g, d, tk, os⟩
      refine wpAny_bind ?_
      unfold Builtin.SmallTypes.ownedTupleHandOut
      refine wpAny_bind (wpAny_setField_rec z4 (by simp) fun h5 hz5 hs5 => ?_)
      refine wpAny_setField_rec hz5 (by simp) fun h6 hz6 hs6 => ?_
      refine wpAny_pure ?_
      have up : ∀ (c : Nat) o, c ≠ N + S.length + 2 → h3.get? c = some o → h6.get? c = some o := fun c o n q => hs6.extBut c o n (hs5.extBut c o n (Heap.get?_push_of_some _ q))
      have dr' : Drew S i S.length xs := by simpa using dr
      have si' : SI N S (fun _ => i + 1) h6 := by
        have a1 : SI N S (fun _ => i + 1) h3 := fun j b a its e => by
          have hj : j < S.length := (List.getElem?_eq_some_iff.mp e).1
          have := si j b a its e
          simpa [hj] using this
        exact a1.other ap (c := N + S.length + 2) (by omega) up
      have tup : h6.get? hp.objs.size = some { cls := .type "tuple", data := .seq xs.toArray } := by
        have q := Heap.get?_push_size h3 (o := { cls := .type "tuple", data := .seq xs.toArray }) rfl
        rw [szA] at q
        have n : (hp.objs.size : Nat) ≠ N + S.length + 2 := by
          have hlt : N + S.length + 2 < hp.objs.size := hlt
          omega
        exact hs6.extBut _ _ n (hs5.extBut _ _ n q)
      have fin := hQ xs h6 tk (rawInt h3.objs.size) false dr' ⟨hz6, ?_, ⟨xs, nto, lx, up _ _ (by omega) to3⟩⟩ (.inr ⟨h3.objs.size, rfl⟩) si' tup fun c o hc q => up c o (by omega) (kk c o (by omega) (k1 c o (by omega) q))
      · show Q (.done (.ret (.ref h3.objs.size))) _
        rw [szA]
        exact fin
      · obtain ⟨n, q⟩ := hz1.ti
        exact ⟨n, up _ _ (by omega) (kk _ _ (by omega) q)⟩
theorem zipN_type {N : Nat} {S : Srcs} {v : Value} {f : Bool} (hz : ZS N S v f s.heap) : s.TypeIs (.ref (N + S.length + 2)) "zip" := ⟨_, hz.z, rfl⟩
/-- 'next' of the zip: a new tuple, or its end -/
theorem zipN_next {N : Nat} {S : Srcs} {i : Nat} {v : Value} {f : Bool} {Q : Option Value → Shared → Prop} (hh : A.in1.handled = none) (ap : Apart N S) (hn : 0 < S.length) (hsz : S.length ≤ sizeLine) (hz : ZS N S v f s.heap) (hv : v = .none ∨ ∃ T : Nat, v = rawInt T) (hi : SI N S (fun _ => i) s.heap) (hlt : N + S.length + 2 < s.heap.objs.size)
    (hle : ∀ (j : Nat) (b : Bool) (a : Addr) (its : List Value), S[j]? = some (b, a, its) → i ≤ its.length)
    (hQ : ∀ xs h' tk v' f', Drew S i S.length xs → ZS N S v' f' h' → (v' = .none ∨ ∃ T : Nat, v' = rawInt T) → SI N S (fun _ => i + 1) h' → h'.get? s.heap.objs.size = some { cls := .type "tuple", data := .seq xs.toArray } →
      (∀ c o, (c < N ∨ N + S.length + 2 < c) → s.heap.get? c = some o → h'.get? c = some o) → Q (some (.ref s.heap.objs.size)) { s with heap := h', toks := tk })
    (hE : (∃ (j : Nat) (b : Bool) (a : Addr) (its : List Value), S[j]? = some (b, a, its) ∧ i = its.length) → ∀ h' tk, (∀ c o, (c < N ∨ N + S.length + 2 < c) → s.heap.get? c = some o → h'.get? c = some o) → Q none { s with heap := h', toks := tk }) :
    wpAny (model prog w) A (pyNext (.ref (N + S.length + 2))) Q E s := by
  have ty := zipN_type hz
  unfold pyNext
  refine wpAny_bind (wpAny_attempt ?_)
  refine wpAny_callSpecial?_slot (name := Str.ofString "__next__") ty F.slot_zip_next ?_
  refine wpAny_call_entry F.slot_zip_next ty F.entry_zip_next (zipN_body hh ap hn hsz hz hv hi hlt hle (fun xs h' tk v' f' d z hv' si t k => ⟨_, rfl, ?_⟩) fun he h' tk e k ho => ?_) (F.args_zip_next_1 _)
  · exact wpAny_pure (hQ xs h' tk v' f' d z hv' si t k)
  · obtain ⟨o, ho, hc⟩ := ho
    refine wpAny_bind (wpAny_isInstance (T := "StopIteration") (b := true) ⟨o, ho, hc⟩ isSubtype_stop ?_)
    exact wpAny_pure (hE he h' tk k)
theorem zipN_nextZ {z : Nat} {N : Nat} {S : Srcs} {i : Nat} {v : Value} {f : Bool} {Q : Option Value → Shared → Prop} (ez : z = N + S.length + 2) (hh : A.in1.handled = none) (ap : Apart N S) (hn : 0 < S.length) (hsz : S.length ≤ sizeLine) (hz : ZS N S v f s.heap) (hv : v = .none ∨ ∃ T : Nat, v = rawInt T) (hi : SI N S (fun _ => i) s.heap)
    (hle : ∀ (j : Nat) (b : Bool) (a : Addr) (its : List Value), S[j]? = some (b, a, its) → i ≤ its.length)
    (hQ : ∀ xs h' tk v' f', Drew S i S.length xs → ZS N S v' f' h' → (v' = .none ∨ ∃ T : Nat, v' = rawInt T) → SI N S (fun _ => i + 1) h' → h'.get? s.heap.objs.size = some { cls := .type "tuple", data := .seq xs.toArray } →
      (∀ c o, (c < N ∨ z < c) → s.heap.get? c = some o → h'.get? c = some o) → Q (some (.ref s.heap.objs.size)) { s with heap := h', toks := tk })
    (hE : (∃ (j : Nat) (b : Bool) (a : Addr) (its : List Value), S[j]? = some (b, a, its) ∧ i = its.length) → ∀ h' tk, (∀ c o, (c < N ∨ z < c) → s.heap.get? c = some o → h'.get? c = some o) → Q none { s with heap := h', toks := tk }) :
    wpAny (model prog w) A (pyNext (.ref z)) Q E s := by
  subst ez
  exact zipN_next hh ap hn hsz hz hv hi (Heap.lt_size hz.z) hle hQ hE
end
/-- the zip of sources that stay as they are, each tuple to a name -/
def plainTg : Expr → Bool
  | .Tuple _ _ _ => false
  | .List _ _ => false
  | _ => true
theorem letGo_plain {prog : Program} {w : World} {A : Around} {E : Value → Shared → Prop} {s : Shared} {tg : Expr} {it v : Value} {Q : Unit → Shared → Prop} (h : plainTg tg = true) (q : Q () s) : wpAny (model prog w) A (letOwnedTupleGo tg it v) Q E s := by
  unfold letOwnedTupleGo
  cases tg <;> first | exact wpAny_pure q | cases h
/-- the sources as the tracked heap has them -/
def SB (K : PySem.W.Frag) (L : List (Bool × Addr × List V)) (H : Hp) : Prop := ∀ (j : Nat) b a xs, L[j]? = some (b, a, xs) → SqB K b H a xs
def minLen : List (Bool × Addr × List V) → Nat
  | [] => 0
  | [x] => x.2.2.length
  | x :: r => min x.2.2.length (minLen r)
theorem minLen_le : ∀ {L : List (Bool × Addr × List V)} {j : Nat} {x : Bool × Addr × List V}, L[j]? = some x → minLen L ≤ x.2.2.length
  | [], j, x, h => by simp at h
  | [y], 0, x, h => by simp at h; subst h; exact Nat.le_refl _
  | [y], j + 1, x, h => by simp at h
  | y :: z :: r, 0, x, h => by simp at h; subst h; exact Nat.min_le_left _ _
  | y :: z :: r, j + 1, x, h => Nat.le_trans (Nat.min_le_right _ _) (minLen_le (L := z :: r) (j := j) (by simpa using h))
theorem minLen_at : ∀ {L : List (Bool × Addr × List V)}, L ≠ [] → ∃ (j : Nat) (x : Bool × Addr × List V), L[j]? = some x ∧ minLen L = x.2.2.length
  | [], h => absurd rfl h
  | [y], _ => ⟨0, y, rfl, rfl⟩
  | y :: z :: r, _ => by
    by_cases h : y.2.2.length ≤ minLen (z :: r)
    · exact ⟨0, y, rfl, Nat.min_eq_left h⟩
    · obtain ⟨j, x, e, l⟩ := minLen_at (L := z :: r) (by simp)
      exact ⟨j + 1, x, by simpa using e, by show min _ _ = _; rw [Nat.min_eq_right (by omega)]; exact l⟩
/-- the library's sources of the tracked ones -/
theorem srcs_of {X : Cx} {pins : List (Addr × Obj)} {σ : L2.St} {H : Hp} {s : Shared} (I : Inv X pins σ H s) : ∀ {L : List (Bool × Addr × List V)}, SB X.K L H → ∃ S : Srcs, S.length = L.length ∧ ∀ (j : Nat) b a xs, L[j]? = some (b, a, xs) → ∃ its, S[j]? = some (b, a, its) ∧ Vals xs its ∧ IsSq b s.heap a its.toArray
  | [], _ => ⟨[], rfl, fun j b a xs e => by simp at e⟩
  | (b, a, xs) :: L, h => by
    obtain ⟨S, l, g⟩ := srcs_of I (L := L) fun j b' a' xs' e => h (j + 1) b' a' xs' (by simpa using e)
    obtain ⟨its, rv, p⟩ := sqB I (h 0 b a xs rfl)
    refine ⟨(b, a, its) :: S, by simp [l], fun j b' a' xs' e => ?_⟩
    cases j with
    | zero =>
      simp at e
      obtain ⟨rfl, rfl, rfl⟩ := e
      exact ⟨its, rfl, rv, p⟩
    | succ j =>
      obtain ⟨its', e', r⟩ := g j b' a' xs' (by simpa using e)
      exact ⟨its', by simpa using e', r⟩
theorem ZS.congr {N : Nat} {S S' : Srcs} {v : Value} {f : Bool} {h : Heap} (x : ZS N S v f h) (e : S.length = S'.length) : ZS N S' v f h := by
  obtain ⟨a, b, c⟩ := x
  refine ⟨?_, ?_, ?_⟩
  · rw [← e]; exact a
  · rw [← e]; exact b
  · rw [← e]; exact c
theorem vals_get : ∀ {vs : List V} {us : List Value}, vs.length = us.length → (∀ (j : Nat) v u, vs[j]? = some v → us[j]? = some u → RelV v u) → Vals vs us
  | [], [], _, _ => .nil
  | [], _ :: _, l, _ => by simp at l
  | _ :: _, [], l, _ => by simp at l
  | v :: vs, u :: us, l, h => .cons (h 0 v u rfl rfl) (vals_get (by simpa using l) fun j v' u' a b => h (j + 1) v' u' (by simpa using a) (by simpa using b))
def dumS (L : List (Bool × Addr × List V)) : Srcs := L.map fun x => (x.1, x.2.1, [])
theorem dumS_len (L : List (Bool × Addr × List V)) : (dumS L).length = L.length := by simp [dumS]
theorem turn_Z {P : Program} {w : World} {K : PySem.W.Frag} {tg : Expr} {N : Nat} {L : List (Bool × Addr × List V)} (hp : plainTg tg = true) (hL : L ≠ []) (hsz : L.length ≤ sizeLine) (ap : ∀ (j : Nat) b a xs, L[j]? = some (b, a, xs) → (a : Nat) < N)
    (self : ∀ (A : Around) (s : Shared) (Q : Value → Shared → Prop) (E : Value → Shared → Prop) (v : Value) (f : Bool), ZS N (dumS L) v f s.heap → Q (.ref (N + L.length + 2)) s → wpAny (model P w) A (pyIter (.ref (N + L.length + 2))) Q E s) :
    Turn P w K tg (ItW (SB K L) (minLen L) fun i => L.map fun x => x.2.2.getD i .non) ((List.range (L.length + 3)).map (N + ·)) (N + L.length + 2)
      (fun i h => ∃ v f, (v = .none ∨ ∃ T : Nat, v = rawInt T) ∧ ZS N (dumS L) v f h ∧ ∀ (j : Nat) b a xs, L[j]? = some (b, a, xs) → IsItr b h (N + j) a i) := by
  have memfp : ∀ c : Nat, c ∈ (List.range (L.length + 3)).map (N + ·) ↔ N ≤ c ∧ c ≤ N + L.length + 2 := fun c => by
    rw [List.mem_map]
    constructor
    · rintro ⟨m, hm, rfl⟩
      have := List.mem_range.mp hm
      omega
    · intro h
      exact ⟨c - N, List.mem_range.mpr (by omega), by omega⟩
  have look : ∀ {X : Cx} {pins : List (Addr × Obj)} {s : Shared} {σ : L2.St} {H : Hp} {i : Nat} {v : Value} {f : Bool}, Inv X pins σ H s → X.K = K → SB K L H → i ≤ minLen L → ZS N (dumS L) v f s.heap → (∀ (j : Nat) b a xs, L[j]? = some (b, a, xs) → IsItr b s.heap (N + j) a i) →
      ∃ S : Srcs, S.length = L.length ∧ Apart N S ∧ ZS N S v f s.heap ∧ SI N S (fun _ => i) s.heap ∧ N + S.length + 2 < s.heap.objs.size ∧ (∀ (j : Nat) (b : Bool) (a : Addr) (its : List Value), S[j]? = some (b, a, its) → ∃ xs, L[j]? = some (b, a, xs) ∧ Vals xs its) := fun {X pins s σ H i v f} I hK sb hi zs it => by
    subst hK
    obtain ⟨S, l, g⟩ := srcs_of I sb
    have back : ∀ (j : Nat) (b : Bool) (a : Addr) (its : List Value), S[j]? = some (b, a, its) → ∃ xs, L[j]? = some (b, a, xs) ∧ Vals xs its ∧ IsSq b s.heap a its.toArray := fun j b a its e => by
      have hj : j < L.length := by rw [← l]; exact (List.getElem?_eq_some_iff.mp e).1
      obtain ⟨b', a', xs', e'⟩ : ∃ b a xs, L[j]? = some (b, a, xs) := ⟨_, _, _, List.getElem?_eq_getElem hj⟩
      obtain ⟨its', e2, r, q⟩ := g j b' a' xs' e'
      rw [e] at e2
      cases e2
      exact ⟨xs', e', r, q⟩
    have zs2 := zs.congr (S' := S) (by rw [dumS_len, l])
    refine ⟨S, l, fun j b a its e => ?_, zs2, fun j b a its e => ?_, Heap.lt_size zs2.z, fun j b a its e => ?_⟩
    · obtain ⟨xs, e2, _⟩ := back j b a its e
      exact ap j b a xs e2
    · obtain ⟨xs, e2, _, q⟩ := back j b a its e
      exact ⟨it j b a xs e2, q⟩
    · obtain ⟨xs, e2, r, _⟩ := back j b a its e
      exact ⟨xs, e2, r⟩
  refine ⟨(memfp _).mpr (by omega), fun i h st b hb => ?_, fun i h h' st k => ?_, ?_, ?_, fun A i s Q E st h => ?_⟩
  · obtain ⟨v, f, _, zs, it⟩ := st
    have hb := (memfp b).mp hb
    have dl := dumS_len L
    obtain ⟨b, rfl⟩ : ∃ c : Nat, c = b := ⟨b, rfl⟩
    by_cases h1 : b < N + L.length
    · obtain ⟨b', a', xs', e'⟩ : ∃ b1 a xs, L[b - N]? = some (b1, a, xs) := ⟨_, _, _, List.getElem?_eq_getElem (show b - N < L.length by omega)⟩
      have := isItr_obj (it (b - N) b' a' xs' e')
      rw [show N + (b - N) = b by omega] at this
      exact this
    · by_cases h2 : b = N + L.length
      · subst h2
        obtain ⟨n, q⟩ := zs.ti
        rw [dl] at q
        exact ⟨_, q, fun v q => nomatch q⟩
      · by_cases h3 : b = N + L.length + 1
        · subst h3
          obtain ⟨ws, n, _, q⟩ := zs.to
          rw [dl] at q
          exact ⟨_, q, fun v q => nomatch q⟩
        · have h4 : b = N + L.length + 2 := by omega
          subst h4
          have q := zs.z
          rw [dl] at q
          exact ⟨_, q, fun v q => nomatch q⟩
  · obtain ⟨v, f, hv, zs, it⟩ := st
    have dl := dumS_len L
    refine ⟨v, f, hv, ⟨k _ ((memfp _).mpr (by rw [dl]; omega)) _ zs.z, ?_, ?_⟩, fun j b a xs e => isItr_at (it j b a xs e) fun o q => k _ ((memfp _).mpr ?_) o q⟩
    · obtain ⟨n, q⟩ := zs.ti
      exact ⟨n, k _ ((memfp _).mpr (by rw [dl]; omega)) _ q⟩
    · obtain ⟨ws, n, l, q⟩ := zs.to
      exact ⟨ws, n, l, k _ ((memfp _).mpr (by rw [dl]; omega)) _ q⟩
    · have : j < L.length := (List.getElem?_eq_some_iff.mp e).1
      omega
  · intro X hP hw hK hc i pins s σ H E I hf st hg
    obtain ⟨hi, hg⟩ := hg
    obtain ⟨v, f, hv, zs, it⟩ := st
    obtain ⟨S, l, apS, zsS, si, hlt, back⟩ := look I hK hg (Nat.le_of_lt hi) zs it
    subst hP hw hK
    have lenOk : ∀ (j : Nat) (b : Bool) (a : Addr) (its : List Value), S[j]? = some (b, a, its) → i < its.length := fun j b a its e => by
      obtain ⟨xs, e2, r⟩ := back j b a its e
      have : minLen L ≤ xs.length := minLen_le e2
      rw [← r.length]
      omega
    refine zipN_nextZ (by rw [l]) (I.ok.hd hc) apS (by rw [l]; exact List.length_pos_iff.mpr hL) (by rw [l]; exact hsz) zsS hv si (fun j b a its e => Nat.le_of_lt (lenOk j b a its e)) (fun xs h' tk v' f' d z hv' si' t k => ⟨.ref s.heap.objs.size, rfl, letGo_plain hp ?_⟩) fun ⟨j, b, a, its, e, hend⟩ => absurd (lenOk j b a its e) (by omega)
    have rel : Vals (L.map fun x => x.2.2.getD i .non) xs := vals_get (by rw [List.length_map, d.1, l]) fun j v u e1 e2 => by
      have hj : j < L.length := by
        have := (List.getElem?_eq_some_iff.mp e1).1
        simpa using this
      obtain ⟨b, a, its, e3⟩ : ∃ b a its, S[j]? = some (b, a, its) := ⟨_, _, _, List.getElem?_eq_getElem (show j < S.length by rw [l]; exact hj)⟩
      obtain ⟨ws, e4, r⟩ := back j b a its e3
      rw [List.getElem?_map, e4] at e1
      cases e1
      have q := (d.2 j b a its (by rw [l]; exact hj) e3).1
      rw [e2] at q
      exact val_get r (by simpa using q)
    have new : ObjOk X.prog X.w (upd H s.heap.objs.size (.tup (L.map fun x => x.2.2.getD i .non))) h' s.heap.objs.size (.tup (L.map fun x => x.2.2.getD i .non)) := ⟨by rw [List.length_map]; exact hsz, xs, rel, ⟨_, t, rfl, _, rfl⟩⟩
    have I1 : Inv X pins σ (upd H s.heap.objs.size (.tup (L.map fun x => x.2.2.getD i .non))) { s with heap := h', toks := tk } :=
      I.turnedNew (ch := (List.range (L.length + 3)).map (N + ·)) (fun b o hb e => k b o (by
        have : ¬ ((N : Nat) ≤ b ∧ b ≤ N + L.length + 2) := fun q => hb ((memfp b).mpr q)
        by_cases z : (b : Nat) < N
        · exact .inl z
        · exact .inr (Nat.lt_of_not_le fun z2 => this ⟨Nat.le_of_not_lt z, z2⟩)) e) hf (Nat.le_refl _) new
    refine ⟨.ref s.heap.objs.size, _, I1, rfl, ⟨_, rfl, I.hok.fresh (Nat.le_refl _), rfl⟩, ⟨v', f', hv', z.congr (by rw [dumS_len, l]), fun j b a xs' e => ?_⟩, fun b hb => ?_⟩
    · have hj : j < S.length := by rw [l]; exact (List.getElem?_eq_some_iff.mp e).1
      obtain ⟨b2, a2, its2, e3⟩ : ∃ b a its, S[j]? = some (b, a, its) := ⟨_, _, _, List.getElem?_eq_getElem hj⟩
      obtain ⟨ws, e4, r⟩ := back j b2 a2 its2 e3
      rw [e] at e4
      cases e4
      exact (si' j b a its2 e3).1
    · have hb2 := (memfp b).mp hb
      rw [upd_ne (show b ≠ s.heap.objs.size from fun q => by
        subst q
        have hlt : N + S.length + 2 < s.heap.objs.size := hlt
        rw [l] at hlt
        exact absurd hb2.2 (Nat.not_le.mpr hlt))]
      exact (hf b hb).1
  · intro X hP hw hK hc i pins s σ H E I hf st hg
    obtain ⟨hi, hg⟩ := hg
    obtain ⟨v, f, hv, zs, it⟩ := st
    obtain ⟨S, l, apS, zsS, si, hlt, back⟩ := look I hK hg (Nat.le_of_eq hi) zs it
    subst hP hw hK
    refine zipN_nextZ (by rw [l]) (I.ok.hd hc) apS (by rw [l]; exact List.length_pos_iff.mpr hL) (by rw [l]; exact hsz) zsS hv si (fun j b a its e => ?_) (fun xs h' tk v' f' d z hv' si' t k => ?_) fun _ h' tk k => ⟨rfl, ?_⟩
    · obtain ⟨xs, e2, r⟩ := back j b a its e
      have : minLen L ≤ xs.length := minLen_le e2
      rw [← r.length]
      omega
    · exfalso
      obtain ⟨j, x, e, lx⟩ := minLen_at hL
      have hj : j < S.length := by rw [l]; exact (List.getElem?_eq_some_iff.mp e).1
      obtain ⟨b2, a2, its2, e3⟩ : ∃ b a its, S[j]? = some (b, a, its) := ⟨_, _, _, List.getElem?_eq_getElem hj⟩
      obtain ⟨ws, e4, r⟩ := back j b2 a2 its2 e3
      have q := (d.2 j b2 a2 its2 hj e3).2
      rw [e] at e4
      cases e4
      have := r.length
      simp only at lx
      omega
    · exact I.turnedL (t' := tk) (ch := (List.range (L.length + 3)).map (N + ·)) (fun b o hb e => k b o (by
        have : ¬ ((N : Nat) ≤ b ∧ b ≤ N + L.length + 2) := fun q => hb ((memfp b).mpr q)
        by_cases z : (b : Nat) < N
        · exact .inl z
        · exact .inr (Nat.lt_of_not_le fun z2 => this ⟨Nat.le_of_not_lt z, z2⟩)) e) hf
  · obtain ⟨v, f, hv, zs, it⟩ := st
    exact self A s Q E v f zs h
theorem zip_self {P : Program} {w : World} {A : Around} {E : Value → Shared → Prop} {s : Shared} {N : Nat} {S : Srcs} {v : Value} {f : Bool} {Q : Value → Shared → Prop} (hz : ZS N S v f s.heap) (h : Q (.ref (N + S.length + 2)) s) : wpAny (model P w) A (pyIter (.ref (N + S.length + 2))) Q E s := by
  have ty := zipN_type hz
  refine wpAny_pyIter_slot ty F.slot_zip_iter ?_
  refine wpAny_call_entry F.slot_zip_iter ty F.entry_zip_iter ?_ (F.args_zip_iter_1 _)
  exact wpAny_pure ⟨.ref (N + S.length + 2), rfl, "zip", _, ty, F.slot_zip_next.lookup, h⟩
section
variable {X : Cx}
theorem pi_zipZ {e1 e2 e3 : Expr} {ta : TA} {p pos : Pos} {tg : Expr} (hpt : plainTg tg = true) (hg : Gl X "zip") (hm : X.mg "zip" = none) (ha : PA X [e1, e2, e3] ta)
    (hs : starEach [e1, e2, e3] X.env = (false, eval e1 X.env) :: starEach [e2, e3] X.env) (hpl : (backTo pos (starEach [e2, e3] X.env)).any (·.1) = false) :
    PI X tg (.Call (.Name "zip" p) [e1, e2, e3] [] pos) (fun σ H R => ta σ H fun vs H1 => ∃ a b c ka kb kc xs ys zs, vs = [.ref a, .ref b, .ref c] ∧ SqB X.K ka H1 a xs ∧ SqB X.K kb H1 b ys ∧ SqB X.K kc H1 c zs ∧
      R (ItW (SB X.K [(ka, a, xs), (kb, b, ys), (kc, c, zs)]) (minLen [(ka, a, xs), (kb, b, ys), (kc, c, zs)]) fun i => [(ka, a, xs), (kb, b, ys), (kc, c, zs)].map fun x => x.2.2.getD i .non) H1) := by
  refine ⟨fun pins s σ H R I h => ?_⟩
  refine Call_ (ld_blt I hg hm PyProof.Rows.boot_zip (PyProof.Rows.callWith_type1 (thn (ha.run pos pins s σ H _ I h) fun us s1 ⟨vs, H1, I1, r1, q1⟩ => ?_) hs hpl))
  obtain ⟨a, b, c3, ka, kb, kc, xs, ys, zs, ex, hqa, hqb, hqc, q⟩ := q1
  subst ex
  have r3 : ∃ u v w, us = [u, v, w] ∧ RelV (.ref a) u ∧ RelV (.ref b) v ∧ RelV (.ref c3) w := by
    cases r1 with
    | cons q1 r1 =>
      obtain ⟨u, v, rfl, h1, h2⟩ := Vals.two r1
      exact ⟨_, _, _, rfl, q1, h1, h2⟩
  obtain ⟨u, v, w, rfl, ru, rv, rw'⟩ := r3
  cases ru
  cases rv
  cases rw'
  obtain ⟨ita, rva, pa⟩ := sqB I1 hqa
  obtain ⟨itb, rvb, pb⟩ := sqB I1 hqb
  obtain ⟨itc, rvc, pc⟩ := sqB I1 hqc
  have alt := isSq_lt pa
  have blt := isSq_lt pb
  have clt := isSq_lt pc
  refine zip_begins3 (begins_sq ka a ita.toArray) (begins_sq kb b itb.toArray) (begins_sq kc c3 itc.toArray) pa pb pc fun h' hz hTI hTO h1 h2 h3 hsz hk => wpAny_pyIter_zip hz ?_
  have I2 : Inv X pins σ H1 { s1 with heap := h' } := I1.kept (t' := s1.toks) hk
  generalize hN : s1.heap.objs.size = N at *
  have three : ∀ {α : Type} {x y z w : α} {j : Nat}, [x, y, z][j]? = some w → (j = 0 ∧ w = x) ∨ (j = 1 ∧ w = y) ∨ (j = 2 ∧ w = z) := fun {α x y z w j} e => by
    match j, e with
    | 0, e => exact .inl ⟨rfl, by simpa using e.symm⟩
    | 1, e => exact .inr (.inl ⟨rfl, by simpa using e.symm⟩)
    | 2, e => exact .inr (.inr ⟨rfl, by simpa using e.symm⟩)
    | j + 3, e => simp at e
  refine ⟨N + 3 + 2, (List.range (3 + 3)).map (N + ·), _, _, H1, rfl, I2, turn_Z (N := N) (L := [(ka, a, xs), (kb, b, ys), (kc, c3, zs)]) hpt (by simp) (by show 3 ≤ sizeLine; decide) (fun j b' a' xs' e => ?_) (fun A s Q E v f zs hq => zip_self zs hq), ⟨.none, false, .inl rfl, ⟨hz, ⟨_, hTI⟩, ⟨[.none, .none, .none], _, rfl, hTO⟩⟩, fun j b' a' xs' e => ?_⟩, fun c hc => ?_, q⟩
  · rcases three e with ⟨_, e⟩ | ⟨_, e⟩ | ⟨_, e⟩ <;> cases e
    · exact alt
    · exact blt
    · exact clt
  · rcases three e with ⟨rfl, e⟩ | ⟨rfl, e⟩ | ⟨rfl, e⟩ <;> cases e
    · exact isItr_new h1
    · exact isItr_new h2
    · exact isItr_new h3
  · obtain ⟨m, hm, rfl⟩ := List.mem_map.mp hc
    have hle : s1.heap.objs.size ≤ N + m := by rw [hN]; exact Nat.le_add_right _ _
    exact I1.fpOk hle (I1.hok.fresh hle)
end
end PL

end
section
set_option maxHeartbeats 1000000
/-! PLn: enumerate, zip by plain values; comprehensions as values. -/
namespace PL
open PySem PySem.Spec L2
open PyProof.Rows hiding St

section
variable {K : PySem.W.Frag} {H H' : Hp} {Z Z' : Addr → Prop}
theorem FzSeq.sqB {v : V} {xs : List T} (h : FzSeq K H Z v xs) : ∃ a b vs, v = .ref a ∧ Reps K H Z xs [] vs ∧ SqB K b H a vs ∧ ∀ H', Keeps H Z H' → SqB K b H' a vs := by
  obtain ⟨a, vs, e, r, f⟩ := h
  rcases f with f | f
  · exact ⟨a, true, vs, e, r, .inl f.2, fun H' k => .inl (Rd.keep f.2 fun o q => k a o f.1 q)⟩
  · exact ⟨a, false, vs, e, r, .inl (.inl f.2), fun H' k => .inl (.inl (k a _ f.1 f.2))⟩
theorem itok_W {G : Hp → Prop} {n : Nat} {yv : Nat → List V} {ys : List T} (hG : ∀ H', Keeps H Z H' → G H') (hn : ys.length = n) (hy : ∀ i, i < n → ∃ ts, ys[i]? = some (.tup ts) ∧ isFs ts = true ∧ Reps K H Z ts [] (yv i)) : Itok K (ItW G n yv) ys H Z := by
  refine ⟨fun i H' hi k => ⟨by rw [← hn]; exact hi, hG H' k⟩, fun H' k => ⟨hn, hG H' k⟩, fun i H1 Z1 x H2 k hz zt hi y => ?_⟩
  obtain ⟨Tp, rfl, nT, rfl⟩ := y
  obtain ⟨ts, e, f, r⟩ := hy i (by rw [← hn]; exact hi)
  exact ⟨.tup ts, _, e, by simpa [isF] using f, Nw.tup (r.keep hz (fun a u z q => k a u z q) ts fun a m => absurd m (by simp)) zt nT⟩
theorem reps_getD {xs : List T} {vs : List V} (r : Reps K H Z xs [] vs) {i : Nat} (h : i < xs.length) : Rep K H Z xs[i] [] (vs.getD i .non) := by
  obtain ⟨v, h1, h2⟩ := r.nilOs (i := i) (t := xs[i]) (by simp [h])
  rw [List.getD_eq_getElem?_getD, h1]
  exact h2
theorem Reps.mk1 {t : T} {v : V} {ts : List T} {vs : List V} (r : Rep K H Z t [] v) (rs : Reps K H Z ts [] vs) : Reps K H Z (t :: ts) [] (v :: vs) := by
  simp only [Reps]
  exact ⟨[], [], v, vs, rfl, rfl, r, rs⟩
theorem Reps.mk0 : Reps K H Z [] [] [] := by simp [Reps]
end
section
variable {X : Cx} {Φ : Nat → Spec}
theorem vi_enum {e : Expr} {A : P} {p pos tpos : Pos} {elts : List Expr} {kk : Nat} (hg : Gl X "enumerate") (hm : X.mg "enumerate" = none) (ha : PE X e (tP X.K A (wpP Φ A))) (hs : notStar e = true) :
    PI X (.Tuple elts kk tpos) (.Call (.Name "enumerate" p) [e] [] pos) (tI X.K (.enum A) (wpI Φ (.enum A))) := (pi_enumB hg hm (pa_cons (vh_seq ha) pa_nil (star_cons hs)) (star_one hs)).imp fun σ H R ⟨Γ, Z, Os, Qt, ok, w, k⟩ => by
  simp only [wpI] at w
  have w' : wpP Φ A Γ fun x Γ1 => hold A x Γ1 fun xs Γ2 => Qt (xs.zipIdx.map fun q => .tup [.int (q.2 : Nat), q.1]) Γ2 := w
  refine ⟨Γ, Z, Os, _, ok, w', fun xs Γ' v H' Z' Os' q ok' e' f fs cap => ?_⟩
  obtain ⟨a, b, vs, rfl, r, sq, kp⟩ := f.sqB
  refine ⟨a, b, vs, rfl, sq, k _ Γ' H' Z' Os' _ q ok' e' (itok_W kp (by simp [r.length]) fun i hi => ?_) fun _ => by simpa using cap⟩
  have hi' : i < xs.length := by rw [r.length]; exact hi
  refine ⟨[.int (i : Nat), xs[i]], by simp [hi'], by simp [isFs, isF, isFs_get fs (i := i) (t := xs[i]) (by simp [hi'])], .mk1 rep_int (.mk1 (reps_getD r hi') .mk0)⟩
theorem vi_zip2 {e1 e2 : Expr} {A B : P} {p pos tpos : Pos} {elts : List Expr} {kk : Nat} (hg : Gl X "zip") (hm : X.mg "zip" = none) (ha : PE X e1 (tP X.K A (wpP Φ A))) (hb : PE X e2 (tP X.K B (wpP Φ B))) (hs : notStar e1 = true ∧ notStar e2 = true) :
    PI X (.Tuple elts kk tpos) (.Call (.Name "zip" p) [e1, e2] [] pos) (tI X.K (.zip2 A B) (wpI Φ (.zip2 A B))) := (pi_zipB hg hm (pa_cons (vh_seq ha) (pa_cons (vh_seq hb) pa_nil (star_cons hs.2)) (star_cons hs.1)) (star_cons hs.1) (star_any (by simp [hs.2]))).imp fun σ H R ⟨Γ, Z, Os, Qt, ok, w, k⟩ => by
  simp only [wpI] at w
  have w' : wpP Φ A Γ fun x Γ1 => hold A x Γ1 fun xs Γ2 => wpP Φ B Γ2 fun y Γ3 => hold B y Γ3 fun ys Γ4 => Qt ((xs.zip ys).map fun z => .tup [z.1, z.2]) Γ4 := w
  refine ⟨Γ, Z, Os, _, ok, w', fun xs Γ1 v1 H1 Z1 Os1 q1 ok1 ex1 f1 fs1 cap1 => ?_⟩
  refine ⟨Γ1, Z1, Os1, _, ok1, q1, fun ys Γ2 v2 H2 Z2 Os2 q2 ok2 ex2 f2 fs2 cap2 => ?_⟩
  have f1 := f1.keep ex2.zz (ex2.keepZ ok1.own)
  obtain ⟨a, ka, vs, rfl, ra, sqa, kpa⟩ := f1.sqB
  obtain ⟨b, kb, ws, rfl, rb, sqb, kpb⟩ := f2.sqB
  refine ⟨a, b, ka, kb, vs, ws, rfl, sqa, sqb, k _ Γ2 H2 Z2 Os2 _ q2 ok2 (ex1.trans ex2) (itok_W (fun H' kk => ⟨kpa H' kk, kpb H' kk⟩) (by simp [ra.length, rb.length]) fun i hi => ?_) fun _ => by simp; omega⟩
  have ha' : i < xs.length := by rw [ra.length]; omega
  have hb' : i < ys.length := by rw [rb.length]; omega
  refine ⟨[xs[i], ys[i]], ?_, by simp [isFs, isFs_get fs1 (i := i) (t := xs[i]) (by simp [ha']), isFs_get fs2 (i := i) (t := ys[i]) (by simp [hb'])], .mk1 (reps_getD ra ha') (.mk1 (reps_getD rb hb') .mk0)⟩
  have hz : i < (xs.zip ys).length := by simp; omega
  simp [List.getElem?_eq_getElem hz]
theorem vi_zip3 {e1 e2 e3 : Expr} {A B C : P} {p pos tpos : Pos} {elts : List Expr} {kk : Nat} (hg : Gl X "zip") (hm : X.mg "zip" = none) (ha : PE X e1 (tP X.K A (wpP Φ A))) (hb : PE X e2 (tP X.K B (wpP Φ B))) (hc : PE X e3 (tP X.K C (wpP Φ C))) (hs : notStar e1 = true ∧ notStar e2 = true ∧ notStar e3 = true) :
    PI X (.Tuple elts kk tpos) (.Call (.Name "zip" p) [e1, e2, e3] [] pos) (tI X.K (.zip3 A B C) (wpI Φ (.zip3 A B C))) := (pi_zipC hg hm (pa_cons (vh_seq ha) (pa_cons (vh_seq hb) (pa_cons (vh_seq hc) pa_nil (star_cons hs.2.2)) (star_cons hs.2.1)) (star_cons hs.1)) (star_cons hs.1) (star_any (by simp [hs.2]))).imp fun σ H R ⟨Γ, Z, Os, Qt, ok, w, k⟩ => by
  simp only [wpI] at w
  have w' : wpP Φ A Γ fun x Γ1 => hold A x Γ1 fun xs Γ2 => wpP Φ B Γ2 fun y Γ3 => hold B y Γ3 fun ys Γ4 => wpP Φ C Γ4 fun z Γ5 => hold C z Γ5 fun zs Γ6 => Qt ((xs.zip (ys.zip zs)).map fun z => .tup [z.1, z.2.1, z.2.2]) Γ6 := w
  refine ⟨Γ, Z, Os, _, ok, w', fun xs Γ1 v1 H1 Z1 Os1 q1 ok1 ex1 f1 fs1 cap1 => ?_⟩
  refine ⟨Γ1, Z1, Os1, _, ok1, q1, fun ys Γ2 v2 H2 Z2 Os2 q2 ok2 ex2 f2 fs2 cap2 => ?_⟩
  refine ⟨Γ2, Z2, Os2, _, ok2, q2, fun zs Γ3 v3 H3 Z3 Os3 q3 ok3 ex3 f3 fs3 cap3 => ?_⟩
  have ex23 := ex2.trans ex3
  have f1 := f1.keep ex23.zz (ex23.keepZ ok1.own)
  have f2 := f2.keep ex3.zz (ex3.keepZ ok2.own)
  obtain ⟨a, ka, vs, rfl, ra, sqa, kpa⟩ := f1.sqB
  obtain ⟨b, kb, ws, rfl, rb, sqb, kpb⟩ := f2.sqB
  obtain ⟨c, kc, us, rfl, rc, sqc, kpc⟩ := f3.sqB
  refine ⟨a, b, c, ka, kb, kc, vs, ws, us, rfl, sqa, sqb, sqc, k _ Γ3 H3 Z3 Os3 _ q3 ok3 (ex1.trans ex23) (itok_W (fun H' kk => ⟨kpa H' kk, kpb H' kk, kpc H' kk⟩) (by simp [ra.length, rb.length, rc.length, Nat.min_assoc]) fun i hi => ?_) fun _ => by simp; omega⟩
  have ha' : i < xs.length := by rw [ra.length]; omega
  have hb' : i < ys.length := by rw [rb.length]; omega
  have hc' : i < zs.length := by rw [rc.length]; omega
  refine ⟨[xs[i], ys[i], zs[i]], ?_, by simp [isFs, isFs_get fs1 (i := i) (t := xs[i]) (by simp [ha']), isFs_get fs2 (i := i) (t := ys[i]) (by simp [hb']), isFs_get fs3 (i := i) (t := zs[i]) (by simp [hc'])], .mk1 (reps_getD ra ha') (.mk1 (reps_getD rb hb') (.mk1 (reps_getD rc hc') .mk0))⟩
  have hz : i < (xs.zip (ys.zip zs)).length := by simp; omega
  simp [List.getElem?_eq_getElem hz]
theorem vi_zip3n {tg e1 e2 e3 : Expr} {A B C : P} {p pos : Pos} (hpt : plainTg tg = true) (hg : Gl X "zip") (hm : X.mg "zip" = none) (ha : PE X e1 (tP X.K A (wpP Φ A))) (hb : PE X e2 (tP X.K B (wpP Φ B))) (hc : PE X e3 (tP X.K C (wpP Φ C))) (hs : notStar e1 = true ∧ notStar e2 = true ∧ notStar e3 = true) :
    PI X tg (.Call (.Name "zip" p) [e1, e2, e3] [] pos) (tI X.K (.zip3 A B C) (wpI Φ (.zip3 A B C))) := (pi_zipZ hpt hg hm (pa_cons (vh_seq ha) (pa_cons (vh_seq hb) (pa_cons (vh_seq hc) pa_nil (star_cons hs.2.2)) (star_cons hs.2.1)) (star_cons hs.1)) (star_cons hs.1) (star_any (by simp [hs.2]))).imp fun σ H R ⟨Γ, Z, Os, Qt, ok, w, k⟩ => by
  simp only [wpI] at w
  have w' : wpP Φ A Γ fun x Γ1 => hold A x Γ1 fun xs Γ2 => wpP Φ B Γ2 fun y Γ3 => hold B y Γ3 fun ys Γ4 => wpP Φ C Γ4 fun z Γ5 => hold C z Γ5 fun zs Γ6 => Qt ((xs.zip (ys.zip zs)).map fun z => .tup [z.1, z.2.1, z.2.2]) Γ6 := w
  refine ⟨Γ, Z, Os, _, ok, w', fun xs Γ1 v1 H1 Z1 Os1 q1 ok1 ex1 f1 fs1 cap1 => ?_⟩
  refine ⟨Γ1, Z1, Os1, _, ok1, q1, fun ys Γ2 v2 H2 Z2 Os2 q2 ok2 ex2 f2 fs2 cap2 => ?_⟩
  refine ⟨Γ2, Z2, Os2, _, ok2, q2, fun zs Γ3 v3 H3 Z3 Os3 q3 ok3 ex3 f3 fs3 cap3 => ?_⟩
  have ex23 := ex2.trans ex3
  have f1 := f1.keep ex23.zz (ex23.keepZ ok1.own)
  have f2 := f2.keep ex3.zz (ex3.keepZ ok2.own)
  obtain ⟨a, ka, vs, rfl, ra, sqa, kpa⟩ := f1.sqB
  obtain ⟨b, kb, ws, rfl, rb, sqb, kpb⟩ := f2.sqB
  obtain ⟨c, kc, us, rfl, rc, sqc, kpc⟩ := f3.sqB
  refine ⟨a, b, c, ka, kb, kc, vs, ws, us, rfl, sqa, sqb, sqc, k _ Γ3 H3 Z3 Os3 _ q3 ok3 (ex1.trans ex23) (itok_W (fun H' kk j b' a' xs' e => ?_) (by simp [minLen, ra.length, rb.length, rc.length]) fun i hi => ?_) fun _ => by simp; omega⟩
  · match j, e with
    | 0, e => cases e; exact kpa H' kk
    | 1, e => cases e; exact kpb H' kk
    | 2, e => cases e; exact kpc H' kk
    | j + 3, e => simp at e
  have hi : i < min vs.length (min ws.length us.length) := hi
  have ha' : i < xs.length := by rw [ra.length]; omega
  have hb' : i < ys.length := by rw [rb.length]; omega
  have hc' : i < zs.length := by rw [rc.length]; omega
  refine ⟨[xs[i], ys[i], zs[i]], ?_, by simp [isFs, isFs_get fs1 (i := i) (t := xs[i]) (by simp [ha']), isFs_get fs2 (i := i) (t := ys[i]) (by simp [hb']), isFs_get fs3 (i := i) (t := zs[i]) (by simp [hc'])], .mk1 (reps_getD ra ha') (.mk1 (reps_getD rb hb') (.mk1 (reps_getD rc hc') .mk0))⟩
  have hz : i < (xs.zip (ys.zip zs)).length := by simp; omega
  simp [List.getElem?_eq_getElem hz]
/-! ### comprehensions -/
theorem _root_.L2.PTs.imp {X : Cx} {e : List Expr} {t t' : TT} (h : PTs X e t) (i : ∀ σ H Q, t' σ H Q → t σ H Q) : PTs X e t' := ⟨fun pins s σ H Q I q => h.run pins s σ H Q I (i _ _ _ q)⟩
theorem vts_no : PTs X [] (tQ X.K (wpOc Φ .no)) := pts_nil.imp fun σ H Q ⟨Γ, Z, Os, Qt, ok, w, k⟩ => by
  simp only [wpOc] at w
  exact k true Γ H Z Os w ok Ext.refl
theorem vts_so {c : Expr} {C : C} (h : PT X c (tQ X.K (wpC Φ C))) : PTs X [c] (tQ X.K (wpOc Φ (.so C))) := (pts_one h).imp fun σ H Q ⟨Γ, Z, Os, Qt, ok, w, k⟩ => by
  simp only [wpOc] at w
  exact ⟨Γ, Z, Os, Qt, ok, w, k⟩
def notSet : Expr → Bool
  | .Set _ _ _ => false
  | _ => true
theorem fold_ok {e : Expr} {env : PySem.Env} (h : notSet e = true) : ∀ x, foldedSetIterable e env x = pure x := fun x => by
  cases e <;> first | rfl | cases h
/-- what a comprehension's block is to be -/
abbrev Blk (X : Cx) (scope : Scope) (P : Cx → Prop) : Prop := ∀ (s : Shared) (H : Hp) (C : Addr) (cl : List (Str × Addr)) (fp : List Addr), P (X.blk s H scope (compEnvC scope cl C X.env) fp)
theorem ve_lc {elt tg iter : Expr} {ifs : List Expr} {scope : Scope} {own : List (Str × Nat)} {pos : Pos} {it : I} {g : G} {c : Oc} {e : E} (hc : X.calm = true) (hN : X.N.Nodup) (hi : PI X tg iter (tI X.K it (wpI Φ it))) (ok : BlkOk X.N X.env.scope scope own)
    (hg : Blk X scope fun Y => PG Y tg (tGT Y.K g)) (ht : Blk X scope fun Y => PTs Y ifs (tQ Y.K (wpOc Φ c))) (he : Blk X scope fun Y => PE Y elt (tV Y.K (wpE Φ e))) (hs : notSet iter = true) (hgo : ∀ i ∈ gN g, i ∈ own.map (·.2)) :
    PE X (.ListComp elt [⟨tg, iter, ifs, 0⟩] scope pos) (tV X.K (wpE Φ (.lc (own.map (·.2)) it g c e))) :=
  (pe_lc hc hN hi ok hg ht he (fold_ok hs)).imp (lc_imp hgo)
theorem ps_lc {i : Nat} {y : Str} {py : Pos} {elt tg iter : Expr} {ifs : List Expr} {scope : Scope} {own : List (Str × Nat)} {pos spos : Pos} {it : I} {g : G} {c : Oc} {e : E} (hc : X.calm = true) (hN : X.N.Nodup) (hy : X.N[i]? = some y) (hyl : X.env.scope.names.lookup y = some .local)
    (hsw : swapsWith (.ListComp elt [⟨tg, iter, ifs, 0⟩] scope pos) (some (.Name y py)) spos.line X.env = pure true) (hi : PI X tg iter (tI X.K it (wpI Φ it))) (ok : BlkOk X.N X.env.scope scope own)
    (hg : Blk X scope fun Y => PG Y tg (tGT Y.K g)) (ht : Blk X scope fun Y => PTs Y ifs (tQ Y.K (wpOc Φ c))) (he : Blk X scope fun Y => PE Y elt (tV Y.K (wpE Φ e))) (hs : notSet iter = true) (hgo : ∀ i ∈ gN g, i ∈ own.map (·.2)) :
    PS X (.Assign [.Name y py] (.ListComp elt [⟨tg, iter, ifs, 0⟩] scope pos) spos) (tAsg (tV X.K (wpE Φ (.lc (own.map (·.2)) it g c e))) (gName i)) :=
  (ps_setLc hc hN hy hyl hsw hi ok hg ht he (fold_ok hs)).imp fun D σ H q => lc_imp hgo σ H _ q
end
end PL

end
section
set_option maxHeartbeats 1000000
/-! PLo: items stored in lists, dicts; appends; statements. -/
namespace PL
open PySem PySem.Spec L2
open PyProof.Rows hiding St

/-! ### a dict's item stored -/
def putW (t : T) (w : V) (ks : List T) (vv : List V) : List V := if (keyIx t ks).isSome then List.zipWith (fun x y => if eqT x t then w else y) ks vv else vv ++ [w]
theorem put_map {κ : Type} [DecidableEq κ] {t : T} {k : κ} (f : T → Option κ) (he : ∀ {x a}, f x = some a → eqT x t = decide (a = k)) (w : V) : ∀ {ks : List T} {kk : List κ} {vv : List V}, ks.map f = kk.map some → kk.length = vv.length →
    (kk.zip vv).map (fun kv => if kv.1 = k then (kv.1, w) else kv) = kk.zip (List.zipWith (fun x y => if eqT x t then w else y) ks vv)
  | [], kk, vv, h, l => by
    have : kk = [] := by simpa using h.symm
    subst this
    rfl
  | x :: ks, [], vv, h, l => by simp at h
  | x :: ks, a :: kk, [], h, l => by simp at l
  | x :: ks, a :: kk, v :: vv, h, l => by
    simp only [List.map_cons, List.cons.injEq] at h
    have e := he h.1
    have ih := put_map f he w (ks := ks) (kk := kk) (vv := vv) h.2 (by simpa using l)
    simp only [List.zip_cons_cons, List.map_cons, List.zipWith_cons_cons]
    rw [e, ih]
    by_cases ha : a = k <;> simp [ha]
theorem put_any {κ : Type} [DecidableEq κ] {t : T} {k : κ} (f : T → Option κ) (he : ∀ {x a}, f x = some a → eqT x t = decide (a = k)) {ks : List T} {kk : List κ} {vv : List V} (h : ks.map f = kk.map some) (l : kk.length = vv.length) (w : V) :
    putK (kk.zip vv) k w = (if (keyIx t ks).isSome then kk else kk ++ [k]).zip (putW t w ks vv) := by
  have e1 : ((kk.zip vv).any fun kv => decide (kv.1 = k)) = (keyIx t ks).isSome := by
    rw [valV_any, val_k1 f he h l]
    cases q : keyIx t ks with
    | none => rfl
    | some j =>
      have hj : j < ks.length := by
        obtain ⟨hlt, _⟩ := List.findIdx?_eq_some_iff_getElem.mp q
        exact hlt
      have hl : ks.length = kk.length := by have := congrArg List.length h; simpa using this
      simp [show j < vv.length by omega]
  unfold putK putW
  rw [e1]
  split
  · exact put_map f he w h l
  · rw [List.zip_append l]
    rfl
section
variable {X : Cx} {pins : List (Addr × Obj)} {σ : L2.St} {H : Hp} {s : Shared}
theorem putW_len {t : T} {w : V} {ks : List T} {vv : List V} (l : ks.length = vv.length) : (putKs t ks).length = (putW t w ks vv).length := by
  unfold putKs putW
  split <;> simp [l]
/-- d[k] = v: the state, what it needs, the dict behind it -/
theorem dic_put {Z : Addr → Prop} {a : Addr} {ks : List T} {vv : List V} {t : T} {os : List Addr} {y w : V} (I : Inv X pins σ H s) (d : DicAt (fun u => H a = some u) ks vv) (r : Rep X.K H Z t os y) (f : keyFit t ks = true) (hz : ks.length < sizeLine) :
    ∃ H1 u, Inv X pins σ H1 s ∧ DPut H1 a y w (upd H a u) ∧ DicAt (fun u' => u' = u) (putKs t ks) (putW t w ks vv) := by
  have lw := putW_len (t := t) (w := w) d.len
  rcases fit_cases f with ⟨k, hk, n⟩ | ⟨k, hk, n⟩
  · have ey := r.key1 hk
    subst ey
    have fin : ∀ (kk : List Key), allK1 ks kk → kk.length = vv.length → ∀ kk', kk' = (if (keyIx t ks).isSome then kk else kk ++ [k]) → allK1 (putKs t ks) kk' ∧ kk'.length = (putW t w ks vv).length := fun kk h1 h2 kk' e => by
      have : allK1 (putKs t ks) kk' := by
        unfold putKs
        rw [e]
        split
        · exact h1
        · exact allK1_snoc h1 hk
      exact ⟨this, by rw [← allK1_len this, lw]⟩
    rcases d with ⟨kk, h1, h2, h3⟩ | ⟨kk, h1, h2, h3⟩
    · refine ⟨H, _, I, DPut.k h3 (by simp [← allK1_len h1]; omega), .inl ⟨_, (fin kk h1 h2 _ rfl).1, (fin kk h1 h2 _ rfl).2, ?_⟩⟩
      rw [put_any k1 (fun e => eqT_k1 e hk) (allK1_map h1) h2]
    · obtain ⟨rfl, rfl⟩ := allKT_none h1 n
      have : vv = [] := by cases vv with | nil => rfl | cons v vv => simp at h2
      subst this
      refine ⟨upd H a (.dK []), .dK [(k, w)], Inv.swapK I h3, ?_, .inl ⟨[k], ⟨hk, trivial⟩, rfl, rfl⟩⟩
      refine .inl ⟨[], k, upd_same, rfl, by show 0 < sizeLine; decide, ?_⟩
      funext b
      by_cases e : b = a
      · rw [e, upd_same, upd_same]; rfl
      · rw [upd_ne e, upd_ne e, upd_ne e]
  · obtain ⟨b, rfl, hb⟩ := r.keyT hk
    have fin : ∀ (kk : List (List Key)), allKT ks kk → kk.length = vv.length → ∀ kk', kk' = (if (keyIx t ks).isSome then kk else kk ++ [k]) → allKT (putKs t ks) kk' ∧ kk'.length = (putW t w ks vv).length := fun kk h1 h2 kk' e => by
      have : allKT (putKs t ks) kk' := by
        unfold putKs
        rw [e]
        split
        · exact h1
        · exact allKT_snoc h1 hk
      exact ⟨this, by rw [← allKT_len this, lw]⟩
    rcases d with ⟨kk, h1, h2, h3⟩ | ⟨kk, h1, h2, h3⟩
    · obtain ⟨rfl, rfl⟩ := allK1_none h1 n
      have : vv = [] := by cases vv with | nil => rfl | cons v vv => simp at h2
      subst this
      refine ⟨upd H a (.dT []), .dT [(k, w)], Inv.swapT I h3, ?_, .inr ⟨[k], ⟨hk, trivial⟩, rfl, rfl⟩⟩
      refine .inr ⟨[], k, b, upd_same, rfl, ?_, by show 0 < sizeLine; decide, ?_⟩
      · rw [upd_ne (ne_of hb h3 (fun z => nomatch z))]; exact hb
      funext b
      by_cases e : b = a
      · rw [e, upd_same, upd_same]; rfl
      · rw [upd_ne e, upd_ne e, upd_ne e]
    · refine ⟨H, _, I, DPut.t h3 hb (by simp [← allKT_len h1]; omega), .inr ⟨_, (fin kk h1 h2 _ rfl).1, (fin kk h1 h2 _ rfl).2, ?_⟩⟩
      rw [put_any kT (fun e => eqT_kT e hk) (allKT_map h1) h2]
end
end PL

end
section
set_option maxHeartbeats 1000000
/-! PLp: statements. -/
namespace PL
open PySem PySem.Spec L2
open PyProof.Rows hiding St

/-! ### list.extend of a list or a tuple -/
theorem extend_tup (l : Addr) (items : Array Value) (n : Nat) (b : Addr) (items2 : Array Value) (n2 : Nat) (d : Option Addr) (sl : Array (Option Value)) (hs0 : ¬(!items.isEmpty && Builtin.List.listTooLong (items.size + items2.size)) = true) (hs1 : items.size ≤ sizeLine) (hs2 : items.size + items2.size ≤ sizeLine + 1) :
    Meets (Builtin.«list.extend» ⟨[.ref l, .ref b], []⟩) (fun _ R s => s.heap.get? l = some { cls := .type "list", dict := none, data := .seq items n, slots := #[] } ∧ s.heap.get? b = some { cls := .type "tuple", dict := d, data := .seq items2 n2, slots := sl } ∧ R (.ok (.ret Value.none)) { s with heap := s.heap.update l (Obj.mapSeq fun x => x ++ items2), toks := s.toks }) :=
  .of_wp fun prog w A R s h => by
    obtain ⟨hp, g, d, tk, os⟩ := s; obtain ⟨hl, hb, h⟩ := h; have f1 := AutoSeq1.idx_int; have f2 := AutoSeq1.sub_tuple_tuple; have f3 := AutoSeq1.sub_list_list; have f4 := AutoSeq1.sub_tuple_list; have f5 := AutoSeq1.sub_list_tuple;
    have hz' : (items ++ items2).size ≤ sizeLine + 1 := by rw [Array.size_append]; exact hs2
    wp_walk using (wpAny_updateSeq hl rfl (hz := hs1) (_hz' := hz')), AutoSeq1.wpAny_loadPart' hl, AutoSeq1.wpAny_loadPart' hb; exact ⟨_, rfl, h⟩
section
variable {X : Cx}
def rExtP : V → List V → Hp → VK → Prop := fun x vs H Q => ∃ l b xs zs, x = .ref l ∧ vs = [.ref b] ∧ H l = some (.lst xs) ∧ (Rd H b (.lst zs) ∨ H b = some (.tup zs)) ∧ xs.length + zs.length ≤ sizeLine ∧ Q .non (upd H l (.lst (xs ++ zs)))
theorem mt_extP : MtR X "list.extend" rExtP := by
  intro pins s σ H x vs v us Q I rx rv h
  obtain ⟨l, b, xs, zs, rfl, rfl, hH, hB, hz, q⟩ := h
  cases rx
  obtain ⟨u, rfl, ru⟩ := rv.one
  cases ru
  obtain ⟨z, its, n, r, hl, e⟩ := I.lstM hH
  rcases hB with hB | hB
  · obtain ⟨z2, its2, n2, r2, hl2, e2⟩ := Inv.rdL I hB
    have hsz : its.toArray.size + its2.toArray.size ≤ sizeLine := by rw [List.size_toArray, List.size_toArray]; omega
    have hlong : ¬ (!its.toArray.isEmpty && Builtin.List.listTooLong (its.toArray.size + its2.toArray.size)) = true := by
      rw [notLongL hsz, Bool.and_false]
      exact Bool.false_ne_true
    refine call_meets F.slot_list_extend ⟨_, e, rfl⟩ F.entry_list_extend (F.args_list_extend_2 _ _)
      (AutoSeq1.list_extend_list_list_0 l its.toArray n b its2.toArray n2 hlong (by rw [List.size_toArray]; omega) (by omega)) ⟨e, e2, ?_⟩
    refine ⟨.non, _, I.lset (its' := its ++ its2) hH e (by simp) (r.append r2) ?_, rfl, q⟩
    rw [List.length_append]
    omega
  · obtain ⟨its2, r2, p2, hz2⟩ := I.tuple (.inl (.inl hB))
    obtain ⟨⟨oc, od, odt, osl⟩, e2, hc2, n2, hd2⟩ := (show s.heap.IsTuple b its2.toArray from p2)
    simp only at hc2 hd2
    subst hc2 hd2
    have hl2 := r2.length
    have hsz : its.toArray.size + its2.toArray.size ≤ sizeLine := by rw [List.size_toArray, List.size_toArray]; omega
    have hlong : ¬ (!its.toArray.isEmpty && Builtin.List.listTooLong (its.toArray.size + its2.toArray.size)) = true := by
      rw [notLongL hsz, Bool.and_false]
      exact Bool.false_ne_true
    refine call_meets F.slot_list_extend ⟨_, e, rfl⟩ F.entry_list_extend (F.args_list_extend_2 _ _)
      (extend_tup l its.toArray n b its2.toArray n2 od osl hlong (by rw [List.size_toArray]; omega) (by omega)) ⟨e, e2, ?_⟩
    refine ⟨.non, _, I.lset (its' := its ++ its2) hH e (by simp) (r.append r2) ?_, rfl, q⟩
    rw [List.length_append]
    omega
/-- o[i] = v, a list or a dict -/
def rSetP (K : PySem.W.Frag) : TSet := fun o i v H Q => (∃ p xs k j, o = .ref p ∧ i = .int k ∧ H p = some (.lst xs) ∧ ixN xs.length k = some j ∧ Q (upd H p (.lst (xs.set j v)))) ∨
  (∃ a ks vv t Z os, o = .ref a ∧ DicAt (fun u => H a = some u) ks vv ∧ Rep K H Z t os i ∧ keyFit t ks = true ∧ ks.length < sizeLine ∧ ∀ u, DicAt (fun u' => u' = u) (putKs t ks) (putW t v ks vv) → Q (upd H a u))
theorem set_P (hu : X.A.units + 1 < cLine) : PSet X (rSetP X.K) := by
  intro pins s σ H o i v ov iv u Q I ro ri rv h
  rcases h with h | ⟨a, ks, vv, t, Z, os, rfl, d, r, f, hz, q⟩
  · exact set_list pins s σ H o i v ov iv u Q I ro ri rv h
  · cases (show ov = Value.ref a from ro)
    obtain ⟨H1, u', I1, dp, dd⟩ := dic_put (w := v) I d r f hz
    exact d_setItem hu I1 dp ri rv fun s' I' => ⟨_, I', q u' dd⟩
end

section
variable {K : PySem.W.Frag} {H : Hp} {Z : Addr → Prop}
theorem Reps.setAt : ∀ {ts : List T} {os : List Addr} {vs : List V} {n : Nat} {t : T} {v : V}, Reps K H Z ts os vs → Rep K H Z t [] v → ∃ os2, os2.Sublist os ∧ Reps K H Z (ts.set n t) os2 (vs.set n v)
  | [], os, vs, n, t, v, h, _ => by
    simp only [Reps] at h
    obtain ⟨rfl, rfl⟩ := h
    exact ⟨[], List.Sublist.refl _, by simp [Reps]⟩
  | x :: ts, os, vs, 0, t, v, h, r => by
    simp only [Reps] at h
    obtain ⟨o1, o2, w, vs', rfl, rfl, r1, r2⟩ := h
    exact ⟨o2, List.sublist_append_right _ _, by simp only [List.set_cons_zero, Reps]; exact ⟨[], o2, v, vs', rfl, rfl, r, r2⟩⟩
  | x :: ts, os, vs, n + 1, t, v, h, r => by
    simp only [Reps] at h
    obtain ⟨o1, o2, w, vs', rfl, rfl, r1, r2⟩ := h
    obtain ⟨os2, s2, r3⟩ := r2.setAt (n := n) r
    exact ⟨o1 ++ os2, s2.append_left o1, by simp only [List.set_cons_succ, Reps]; exact ⟨o1, os2, w, _, rfl, rfl, r1, r3⟩⟩
theorem Reps.zipPut {y t : T} {v : V} (r : Rep K H Z t [] v) : ∀ {ks vs : List T} {ws : List V}, Reps K H Z vs [] ws → Reps K H Z (List.zipWith (fun x z => if eqT x y then t else z) ks vs) [] (List.zipWith (fun x z => if eqT x y then v else z) ks ws)
  | [], vs, ws, _ => by simp [Reps]
  | k :: ks, [], ws, h => by
    simp only [Reps] at h
    rw [h.2]
    simp [Reps]
  | k :: ks, x :: vs, ws, h => by
    simp only [Reps] at h
    obtain ⟨o1, o2, w, ws', e1, rfl, r1, r2⟩ := h
    have n := List.append_eq_nil_iff.mp e1.symm
    rw [n.1] at r1
    rw [n.2] at r2
    have ih := Reps.zipPut (y := y) r (ks := ks) r2
    simp only [List.zipWith_cons_cons, Reps]
    refine ⟨[], [], _, _, rfl, rfl, ?_, ih⟩
    split
    · exact r
    · exact r1
theorem Reps.putW {y t : T} {v : V} {ks vs : List T} {ws : List V} (h : Reps K H Z vs [] ws) (r : Rep K H Z t [] v) : Reps K H Z (putVs y t ks vs) [] (PL.putW y v ks ws) := by
  unfold putVs PL.putW
  split
  · exact Reps.zipPut r h
  · have := h.append (us := [t]) (o2 := []) (ws := [v]) (by simp only [Reps]; exact ⟨[], [], v, [], rfl, rfl, r, rfl, rfl⟩)
    simpa using this
end

/-! ### statements -/
def Par (io : List Nat) (σ σ2 : L2.St) : Prop := ∀ i ∈ io, σ2[i]? = σ[i]?
theorem Par.refl {io : List Nat} {σ : L2.St} : Par io σ σ := fun _ _ => rfl
theorem Par.trans {io : List Nat} {σ σ1 σ2 : L2.St} (h : Par io σ σ1) (k : Par io σ1 σ2) : Par io σ σ2 := fun i m => (k i m).trans (h i m)
theorem Keep.par {is io : List Nat} {σ σ2 : L2.St} (h : Keep is σ σ2) (d : ∀ i ∈ is, i ∉ io) : Par io σ σ2 := fun i m => h i fun n => d i n m
/-- the ends of a statement, by plain values and by the heap -/
structure Link (K : PySem.W.Frag) (io : List Nat) (os0 : List Addr) (H : Hp) (Z : Addr → Prop) (σ : L2.St) (De : PL.Ends) (D : L2.Ends) : Prop where
  nx : ∀ Γ' σ' H' Z' Os', De.nx Γ' → Ok K H' Z' Γ' Os' σ' → Ext os0 H Z H' Z' Os'.flatten → Par io σ σ' → D.nx σ' H'
  rt : ∀ t Γ' σ' v H' Z' Os' os, De.rt t Γ' → Ok K H' Z' Γ' Os' σ' → Rep K H' Z' t os v → Own H' Z' (os ++ Os'.flatten) → Ext os0 H Z H' Z' (os ++ Os'.flatten) → Par io σ σ' → D.rt v H'
  bk : ∀ Γ' σ' H' Z' Os', De.bk Γ' → Ok K H' Z' Γ' Os' σ' → Ext os0 H Z H' Z' Os'.flatten → Par io σ σ' → D.bk σ' H'
  ct : ∀ Γ' σ' H' Z' Os', De.ct Γ' → Ok K H' Z' Γ' Os' σ' → Ext os0 H Z H' Z' Os'.flatten → Par io σ σ' → D.ct σ' H'
section
variable {K : PySem.W.Frag} {io : List Nat} {os0 os1 : List Addr} {H H1 : Hp} {Z Z1 : Addr → Prop} {σ σ1 : L2.St} {De : PL.Ends} {D : L2.Ends}
theorem Link.later (l : Link K io os0 H Z σ De D) (e : Ext os0 H Z H1 Z1 os1) (p : Par io σ σ1) : Link K io os1 H1 Z1 σ1 De D :=
  ⟨fun Γ' σ' H' Z' Os' q ok e' p' => l.nx Γ' σ' H' Z' Os' q ok (e.trans e') (p.trans p'), fun t Γ' σ' v H' Z' Os' os q ok r o e' p' => l.rt t Γ' σ' v H' Z' Os' os q ok r o (e.trans e') (p.trans p'),
    fun Γ' σ' H' Z' Os' q ok e' p' => l.bk Γ' σ' H' Z' Os' q ok (e.trans e') (p.trans p'), fun Γ' σ' H' Z' Os' q ok e' p' => l.ct Γ' σ' H' Z' Os' q ok (e.trans e') (p.trans p')⟩
end
def tS (K : PySem.W.Frag) (io : List Nat) (w : PL.Ends → Env → Prop) : TS := fun D σ H => ∃ Γ Z Os De, Ok K H Z Γ Os σ ∧ w De Γ ∧ Link K io Os.flatten H Z σ De D
def swB (value : Expr) (target : Option Expr) (line : Nat) (sc : Scope) : Bool :=
  match value with
  | .ListComp _ _ s p => (match target with
    | some (.Name t pos) => sc.names.lookup t == some .local && pos.line == p.line && !(s.names.any fun (n, k) => n == t && (k == .local || k == .cell))
    | _ => false)
  | _ => false
def plainV : Expr → Bool
  | .ListComp _ _ _ _ => false
  | .SetComp _ _ _ _ => false
  | .DictComp _ _ _ _ _ => false
  | _ => true
theorem swaps_plain {v : Expr} {t : Option Expr} {l : Nat} {env : PySem.Env} (h : plainV v = true) : swapsWith v t l env = pure false := by
  unfold swapsWith
  cases v <;> first | rfl | cases h
theorem swaps_sub {v : Expr} {o i : Expr} {p : Pos} {l : Nat} {env : PySem.Env} : swapsWith v (some (.Subscript o i p)) l env = pure false := by
  unfold swapsWith
  cases v <;> rfl
theorem swaps_tup {v : Expr} {es : List Expr} {k : Nat} {p : Pos} {l : Nat} {env : PySem.Env} : swapsWith v (some (.Tuple es k p)) l env = pure false := by
  unfold swapsWith
  cases v <;> rfl
theorem sole_tup {v : Expr} {es : List Expr} {k : Nat} {p : Pos} {l : Nat} {env : PySem.Env} : swapsWithSole [.Tuple es k p] v l env = pure false := by
  unfold swapsWithSole
  exact swaps_tup (v := v) (es := es) (k := k) (p := p) (l := l) (env := env)
theorem sole_sub {v : Expr} {o i : Expr} {p : Pos} {l : Nat} {env : PySem.Env} : swapsWithSole [.Subscript o i p] v l env = pure false := by
  unfold swapsWithSole
  exact swaps_sub (v := v) (o := o) (i := i) (p := p) (l := l) (env := env)
def notTup : Expr → Bool
  | .Tuple _ _ _ => false
  | _ => true
theorem stores_plain {ts : List Expr} {v : Expr} {env : PySem.Env} (h : notTup v = true) : swappedStores ts v env = pure none := by
  unfold swappedStores
  cases v <;> first | (cases h; done) | skip
  all_goals
    cases ts with
    | nil => rfl
    | cons t ts =>
      cases t <;> first
        | rfl
        | (cases ts <;> rfl)
theorem stores_sub {o i : Expr} {p : Pos} {v : Expr} {env : PySem.Env} : swappedStores [.Subscript o i p] v env = pure none := by
  unfold swappedStores
  cases v <;> rfl
section
variable {X : Cx} {Φ : Nat → Spec} {io : List Nat}
theorem asg_imp {K : PySem.W.Frag} {g : G} {e : E} (hio : ∀ i ∈ gN g, i ∉ io) : ∀ D σ H, tS K io (wpS Φ (.asg g e)) D σ H → tAsg (tV K (wpE Φ e)) (tGT K g) D σ H := fun D σ H ⟨Γ, Z, Os, De, ok, w, l⟩ => by
  simp only [wpS] at w
  refine ⟨Γ, Z, Os, _, ok, w, fun t Γ1 v H1 Z1 Os1 o1 q1 r1 => ?_⟩
  obtain ⟨Γ2, b, q⟩ := q1
  exact ⟨Γ1, Z1, Os1, t, o1, Γ2, r1.ok, r1.rep, r1.own, b, fun σ2 Os2 ok2 sub kp => l.nx Γ2 σ2 H1 Z1 Os2 q ok2 (r1.ext.sub sub) (kp.par hio)⟩
theorem gnm_imp {K : PySem.W.Frag} {i : Nat} : ∀ v σ H Q, tGT K (.nm i) v σ H Q → gName i v σ H Q := fun v σ H Q ⟨Γ, Z, Os, t, os, Γ2, ok, r, o, b, k⟩ => by
  simp only [bindG] at b
  split at b
  · rename_i hl
    cases b
    refine k _ _ (ok.put hl r o) (Ok.put_sub (by rw [ok.lo]; exact hl)) fun j n => ?_
    simp only [gN, List.mem_singleton] at n
    exact List.getElem?_set_ne (Ne.symm n)
  · cases b
theorem tV_mono {K : PySem.W.Frag} {w : ME} {σ : L2.St} {H : Hp} {Q Q' : VK} (h : tV K w σ H Q) (i : ∀ v H, Q v H → Q' v H) : tV K w σ H Q' := by
  obtain ⟨Γ, Z, Os, Qt, ok, w, k⟩ := h
  exact ⟨Γ, Z, Os, Qt, ok, w, fun t Γ' v H' Z' Os' os q r => i _ _ (k t Γ' v H' Z' Os' os q r)⟩
theorem vs_nm {i : Nat} {x : Str} {e : Expr} {E : E} {p pos : Pos} (hN : X.N.Nodup) (hi : X.N[i]? = some x) (hx : Loc X.env.scope x) (hf : X.fn x = true ∨ X.env.scope.names.lookup x = some .local) (he : PE X e (tV X.K (wpE Φ E))) (hs : swapsWith e (some (.Name x p)) pos.line X.env = pure false) (hio : i ∉ io) :
    PS X (.Assign [.Name x p] e pos) (tS X.K io (wpS Φ (.asg (.nm i) E))) := (ps_set hN hi hx he hs hf).imp fun D σ H q =>
  tV_mono (asg_imp (by simpa [gN] using hio) D σ H q) fun v H q => gnm_imp v σ H _ q
theorem vs_lc {i : Nat} {x : Str} {e : Expr} {E : E} {p pos : Pos} (h : PS X (.Assign [.Name x p] e pos) (tAsg (tV X.K (wpE Φ E)) (gName i))) (hio : i ∉ io) :
    PS X (.Assign [.Name x p] e pos) (tS X.K io (wpS Φ (.asg (.nm i) E))) := h.imp fun D σ H q =>
  tV_mono (asg_imp (by simpa [gN] using hio) D σ H q) fun v H q => gnm_imp v σ H _ q
theorem vs_tp {es : List Expr} {gs : List G} {n : Nat} {e : Expr} {E : E} {p pos : Pos} (hg : PG X (.Tuple es n p) (tGT X.K (.tp gs))) (he : PE X e (tV X.K (wpE Φ E))) (hn : notTup e = true) (hio : ∀ i ∈ gN (.tp gs), i ∉ io) :
    PS X (.Assign [.Tuple es n p] e pos) (tS X.K io (wpS Φ (.asg (.tp gs) E))) := (ps_asg he hg sole_tup (stores_plain hn) rfl).imp (asg_imp hio)
theorem vs_setIx (hu : X.A.units + 1 < cLine) {i : Nat} {o k e : Expr} {Kk E : E} {p pos : Pos} (ho : PE X o (tVar i)) (hk : PE X k (tV X.K (wpE Φ Kk))) (he : PE X e (tV X.K (wpE Φ E))) (hp : plainSub k = true) :
    PS X (.Assign [.Subscript o k p] e pos) (tS X.K io (wpS Φ (.setIx i Kk E))) :=
  (ps_asg he (pg_sub ho hk (set_P hu) (by intro v; cases k <;> first | rfl | cases hp)) sole_sub stores_sub rfl).imp fun D σ H ⟨Γ, Z, Os, De, ok, w, l⟩ => by
    simp only [wpS] at w
    refine ⟨Γ, Z, Os, _, ok, w, fun t Γ1 v H1 Z1 Os1 o1 q1 r1 => ?_⟩
    obtain ⟨⟨u, hu1⟩, q1⟩ := q1
    obtain ⟨vo, e1, e2⟩ := r1.ok.get i u hu1
    refine ⟨vo, e1, Γ1, Z1, Os1, _, r1.ok, q1, fun y Γ2 vk H2 Z2 Os2 o2 q2 r2 => ?_⟩
    obtain ⟨ft, q2⟩ := q2
    have n1 := r1.nilF ft
    subst n1
    have rt : Rep X.K H2 Z2 t [] v := r1.rep.ext r2.ext r1.own
    have ex := r1.exto.trans r2.exto
    have own2 : Own H2 Z2 ([] ++ Os2.flatten) := by simpa using r2.ok.own
    rcases q2 with ⟨xs, j, q, hx, rfl, hj, q2⟩ | ⟨ks, vs, hx, fit, fs, hz, q2⟩
    · obtain ⟨a, ws, os1, f1, f2, f3, rs⟩ := r2.ok.lstAt hx
      rw [e1] at f1
      cases f1
      obtain ⟨na, nz⟩ := r2.ok.headNodup f2
      obtain ⟨os2, sub, rs2⟩ := rs.setAt (n := q) rt
      have rep' : Rep X.K (upd H2 a (.lst (ws.set q v))) Z2 (.lst true (xs.set q t)) (a :: os2) (.ref a) := by
        simp only [Rep]
        exact ⟨a, _, rfl, os2, rfl, upd_same, rs2.upd nz fun m => na (sub.subset m)⟩
      obtain ⟨ok', ext'⟩ := r2.ok.mut (oy := []) hx f2 e1 own2 rep' ⟨a :: os1, sub.cons_cons a, by simp⟩
      refine .inl ⟨a, ws, j, q, rfl, r2.rep.int_inv, f3, by rw [← rs.length]; exact hj, l.nx _ σ _ Z2 _ q2 ok' (ext' (by simpa using ex)) Par.refl⟩
    · obtain ⟨a, ws, os1, f1, f2, d, rs⟩ := r2.ok.dicAt hx
      rw [e1] at f1
      cases f1
      obtain ⟨na, nz⟩ := r2.ok.headNodup f2
      have n2 := rs.nil _ fs
      subst n2
      refine .inr ⟨a, ks, ws, y, Z2, o2, rfl, d, r2.rep, fit, hz, fun u' du => ?_⟩
      have rep' : Rep X.K (upd H2 a u') Z2 (.dic true (putKs y ks) (putVs y t ks vs)) [a] (.ref a) := by
        simp only [Rep]
        refine ⟨a, putW y v ks ws, rfl, [], rfl, du.imp fun w e => by rw [e, upd_same], ?_⟩
        exact (rs.putW rt).upd nz (by simp)
      obtain ⟨ok', ext'⟩ := r2.ok.mut (oy := []) hx f2 e1 own2 rep' ⟨[a], List.Sublist.refl _, by simp⟩
      exact l.nx _ σ _ Z2 _ q2 ok' (ext' (by simpa using ex)) Par.refl
theorem vs_aug {i : Nat} {x : Str} {o : Op} {e : Expr} {E : E} {p pos : Pos} (hN : X.N.Nodup) (hi : X.N[i]? = some x) (hx : Loc X.env.scope x) (hf : X.fn x = true ∨ X.env.scope.names.lookup x = some .local) (he : PE X e (tV X.K (wpE Φ E))) (hio : i ∉ io) :
    PS X (.AugAssign (.Name x p) (opA o) e pos) (tS X.K io (wpS Φ (.aug i o E))) := (ps_aug hN hi hx he (augT o) hf).imp fun D σ H ⟨Γ, Z, Os, De, ok, w, l⟩ => by
  simp only [wpS] at w
  obtain ⟨x, h1, fx, w⟩ := w
  obtain ⟨v, h2, rx⟩ := ok.get i x h1
  have n := rx.nil _ fx
  rw [n] at rx
  refine ⟨v, h2, Γ, Z, Os, _, ok, w, fun y Γ1 u H1 Z1 Os1 o1 q1 r1 => ?_⟩
  have rx1 : Rep X.K H1 Z1 x [] v := rx.ext r1.ext (by simpa using ok.own)
  refine ⟨x, y, Z1, [], o1, _, r1.ok.zt, rx1, r1.rep, q1, fun z v' H' Z' os' qz nw => ?_⟩
  have res := nw.res r1.ok r1.exto
  have il : i < Γ1.length := by rw [← res.ok.ls, ok.ls]; exact ok.lt h1
  have ok' := res.ok.put il res.rep res.own
  exact l.nx _ _ _ _ _ qz ok' (res.ext.sub (Ok.put_sub (by rw [res.ok.lo]; exact il))) fun j m => List.getElem?_set_ne (show i ≠ j from fun e => hio (by rw [e]; exact m))
theorem vs_app {i : Nat} {o e : Expr} {E : E} {apos cpos pos : Pos} (ho : PE X o (tVar i)) (he : PE X e (tV X.K (wpE Φ E))) (hb : notCall0 o = true) (hl : lineOk apos cpos = true) (hs : notStar e = true) :
    PS X (.Expr (.Call (.Attribute o "append" apos) [e] [] cpos) pos) (tS X.K io (wpS Φ (.app i E))) :=
  (ps_expr (pe_bmV PySem.F.plainAttrs_list PySem.F.slot_list_append PySem.F.type_list_append mt_append ho (pa_cons he pa_nil (star_cons hs)) hb hl (by simp [hs]) (by simp)) (swaps_plain rfl)).imp fun D σ H ⟨Γ, Z, Os, De, ok, w, l⟩ => by
    simp only [wpS] at w
    obtain ⟨⟨b, us, h1⟩, w⟩ := w
    obtain ⟨v, h2, rx⟩ := ok.get i _ h1
    refine ⟨v, h2, tyV_lst rx rfl, Γ, Z, Os, _, ok, w, fun t Γ1 u H1 Z1 Os1 o1 q1 r1 => ?_⟩
    obtain ⟨xs, hx, hz, q⟩ := q1
    obtain ⟨a, ws, os1, f1, f2, f3, rs⟩ := r1.ok.lstAt hx
    rw [h2] at f1
    cases f1
    obtain ⟨na, nz⟩ := r1.ok.headNodup f2
    have nao : a ∉ o1 := fun m => r1.own.apart m (getD_mem (by rw [f2]; exact List.mem_cons_self))
    have rep' : Rep X.K (upd H1 a (.lst (ws ++ [u]))) Z1 (.lst true (xs ++ [t])) (a :: (os1 ++ o1)) (.ref a) := by
      simp only [Rep]
      refine ⟨a, _, rfl, _, rfl, upd_same, Reps.append (rs.upd nz na) ?_⟩
      simp only [Reps]
      exact ⟨o1, [], u, [], by simp, rfl, r1.rep.upd nz nao, rfl, rfl⟩
    obtain ⟨ok', ext'⟩ := r1.ok.mut (oy := o1) hx f2 h2 r1.own rep' ⟨_, List.Sublist.refl _, by
      refine List.Perm.trans ?_ List.perm_append_comm
      simp⟩
    exact ⟨a, ws, u, rfl, rfl, f3, by rw [← rs.length]; exact hz, l.nx _ σ _ Z1 _ q ok' (ext' r1.ext) Par.refl⟩
end
end PL

end
section
set_option maxHeartbeats 1000000
/-! PLq: the other statements. -/
namespace PL
open PySem PySem.Spec L2
open PyProof.Rows hiding St

section
variable {X : Cx} {Φ : Nat → Spec} {io : List Nat}
theorem Rep.seqR {K : PySem.W.Frag} {H : Hp} {Z : Addr → Prop} {t : T} {ys : List T} {os : List Addr} {v : V} (r : Rep K H Z t os v) (h : items t = some ys) (f : isFs ys = true) : ∃ b zs, v = .ref b ∧ (Rd H b (.lst zs) ∨ H b = some (.tup zs)) ∧ Reps K H Z ys [] zs := by
  cases t with
  | tup ts =>
    have e : ts = ys := by simpa [items] using h
    subst e
    obtain ⟨a, vs, rfl, g, rs⟩ := r.tup_f f
    exact ⟨a, vs, rfl, .inr g.2, rs⟩
  | lst o ts =>
    have e : ts = ys := by simpa [items] using h
    subst e
    obtain ⟨a, vs, rfl, g, rs⟩ := r.lst_inv f
    exact ⟨a, vs, rfl, .inl g, rs⟩
  | _ => cases h
theorem vs_ext {i : Nat} {o e : Expr} {A : P} {apos cpos pos : Pos} (ho : PE X o (tVar i)) (he : PE X e (tP X.K A (wpP Φ A))) (hb : notCall0 o = true) (hl : lineOk apos cpos = true) (hs : notStar e = true) :
    PS X (.Expr (.Call (.Attribute o "extend" apos) [e] [] cpos) pos) (tS X.K io (wpS Φ (.ext i A))) :=
  (ps_expr (pe_bmV PySem.F.plainAttrs_list PySem.F.slot_list_extend PySem.F.type_list_extend mt_extP ho (pa_cons he pa_nil (star_cons hs)) hb hl (by simp [hs]) (by simp)) (swaps_plain rfl)).imp fun D σ H ⟨Γ, Z, Os, De, ok, w, l⟩ => by
    simp only [wpS] at w
    obtain ⟨⟨b, us, h1⟩, w⟩ := w
    obtain ⟨v, h2, rx⟩ := ok.get i _ h1
    refine ⟨v, h2, tyV_lst rx rfl, Γ, Z, Os, _, ok, w, fun t Γ1 u H1 Z1 Os1 o1 q1 r1 => ?_⟩
    obtain ⟨xs, ys, hx, hy, fy, hz, q⟩ := q1
    obtain ⟨a, ws, os1, f1, f2, f3, rs⟩ := r1.ok.lstAt hx
    rw [h2] at f1
    cases f1
    obtain ⟨na, nz⟩ := r1.ok.headNodup f2
    obtain ⟨o', rt⟩ := r1.rep
    obtain ⟨b, zs, rfl, hB, rz⟩ := rt.seqR hy fy
    have rep' : Rep X.K (upd H1 a (.lst (ws ++ zs))) Z1 (.lst true (xs ++ ys)) (a :: os1) (.ref a) := by
      simp only [Rep]
      refine ⟨a, _, rfl, _, rfl, upd_same, ?_⟩
      have := Reps.append (rs.upd (u := .lst (ws ++ zs)) nz na) (rz.upd (u := .lst (ws ++ zs)) nz (by simp))
      simpa using this
    obtain ⟨ok', ext'⟩ := r1.ok.mut (oy := []) hx f2 h2 (by simpa using r1.ok.own) rep' ⟨_, List.Sublist.refl _, by simp⟩
    exact ⟨a, b, ws, zs, rfl, rfl, f3, hB, by rw [← rs.length, ← rz.length]; exact hz, l.nx _ σ _ Z1 _ q ok' (ext' (by simpa using r1.ext)) Par.refl⟩
theorem vs_ex {e : Expr} {E : E} {pos : Pos} (he : PE X e (tV X.K (wpE Φ E))) (hp : plainV e = true) : PS X (.Expr e pos) (tS X.K io (wpS Φ (.ex E))) := (ps_expr he (swaps_plain hp)).imp fun D σ H ⟨Γ, Z, Os, De, ok, w, l⟩ => by
  simp only [wpS] at w
  exact ⟨Γ, Z, Os, _, ok, w, fun t Γ1 v H1 Z1 Os1 o1 q1 r1 => l.nx Γ1 σ H1 Z1 Os1 q1 r1.ok r1.exto Par.refl⟩
theorem vs_ret {e : Expr} {E : E} {pos : Pos} (he : PE X e (tV X.K (wpE Φ E))) : PS X (.Return (some e) pos) (tS X.K io (wpS Φ (.ret E))) := (ps_ret he).imp fun D σ H ⟨Γ, Z, Os, De, ok, w, l⟩ => by
  simp only [wpS] at w
  exact ⟨Γ, Z, Os, _, ok, w, fun t Γ1 v H1 Z1 Os1 o1 q1 r1 => l.rt t Γ1 σ v H1 Z1 Os1 o1 q1 r1.ok r1.rep r1.own r1.ext Par.refl⟩
theorem vs_retN {pos : Pos} : PS X (.Return none pos) (tS X.K io (wpS Φ .retN)) := ps_retN.imp fun D σ H ⟨Γ, Z, Os, De, ok, w, l⟩ => by
  simp only [wpS] at w
  exact l.rt .non Γ σ .non H Z Os [] w ok rep_non (by simpa using ok.own) Ext.refl Par.refl
theorem vs_iff {c : Expr} {a b : List Stmt} {C : C} {A B : Ss} {pos : Pos} (hc : PT X c (tQ X.K (wpC Φ C))) (ha : PSs X a (tS X.K io (wpSs Φ A))) (hb : PSs X b (tS X.K io (wpSs Φ B))) : PS X (.If c a b pos) (tS X.K io (wpS Φ (.iff C A B))) := (ps_if hc ha hb).imp fun D σ H ⟨Γ, Z, Os, De, ok, w, l⟩ => by
  simp only [wpS] at w
  refine ⟨Γ, Z, Os, _, ok, w, fun c Γ1 H1 Z1 Os1 q1 ok1 e1 => ?_⟩
  cases c with
  | true => exact ⟨Γ1, Z1, Os1, De, ok1, q1, l.later e1 Par.refl⟩
  | false => exact ⟨Γ1, Z1, Os1, De, ok1, q1, l.later e1 Par.refl⟩
theorem vs_brk {pos : Pos} : PS X (.Break pos) (tS X.K io (wpS Φ .brk)) := ps_break.imp fun D σ H ⟨Γ, Z, Os, De, ok, w, l⟩ => by
  simp only [wpS] at w
  exact l.bk Γ σ H Z Os w ok Ext.refl Par.refl
theorem vs_cnt {pos : Pos} : PS X (.Continue pos) (tS X.K io (wpS Φ .cnt)) := ps_continue.imp fun D σ H ⟨Γ, Z, Os, De, ok, w, l⟩ => by
  simp only [wpS] at w
  exact l.ct Γ σ H Z Os w ok Ext.refl Par.refl
theorem vs_pas {pos : Pos} : PS X (.Pass pos) (tS X.K io (wpS Φ .pas)) := ps_pass.imp fun D σ H ⟨Γ, Z, Os, De, ok, w, l⟩ => by
  simp only [wpS] at w
  exact l.nx Γ σ H Z Os w ok Ext.refl Par.refl
theorem vss_nil : PSs X [] (tS X.K io (wpSs Φ .nil)) := pss_nil.imp fun D σ H ⟨Γ, Z, Os, De, ok, w, l⟩ => by
  simp only [wpSs] at w
  exact l.nx Γ σ H Z Os w ok Ext.refl Par.refl
theorem vss_cons {st : Stmt} {rest : List Stmt} {s : S} {ss : Ss} (h1 : PS X st (tS X.K io (wpS Φ s))) (h2 : PSs X rest (tS X.K io (wpSs Φ ss))) : PSs X (st :: rest) (tS X.K io (wpSs Φ (.cons s ss))) := (pss_cons h1 h2).imp fun D σ H ⟨Γ, Z, Os, De, ok, w, l⟩ => by
  simp only [wpSs] at w
  exact ⟨Γ, Z, Os, _, ok, w, ⟨fun Γ' σ' H' Z' Os' q ok' e' p' => ⟨Γ', Z', Os', De, ok', q, l.later e' p'⟩, l.rt, l.bk, l.ct⟩⟩
theorem vss_kill {rest : List Stmt} {ks : List Nat} {ss : Ss} (h2 : PSs X rest (tS X.K io (wpSs Φ ss))) : PSs X rest (tS X.K io (wpSs Φ (.cons (.kill ks) ss))) := h2.imp fun D σ H ⟨Γ, Z, Os, De, ok, w, l⟩ => by
  simp only [wpSs, wpS] at w
  exact ⟨wipeE ks Γ, Z, wipeO ks Os, De, ok.wipe ks rfl fun _ _ => rfl, w, l.later (Ext.refl.sub fun a m => (wipeO_sub ks Os).subset m) Par.refl⟩
theorem vss_frz {rest : List Stmt} {i : Nat} {ss : Ss} (h2 : PSs X rest (tS X.K io (wpSs Φ ss))) : PSs X rest (tS X.K io (wpSs Φ (.cons (.frz i) ss))) := h2.imp fun D σ H ⟨Γ, Z, Os, De, ok, w, l⟩ => by
  simp only [wpSs, wpS] at w
  obtain ⟨t, h1, w⟩ := w
  exact ⟨_, _, _, De, ok.frzAt h1, w, l.later (Ext.frzAt Ext.refl) Par.refl⟩
theorem forr_imp {K : PySem.W.Frag} {it : I} {g : G} {body : Ss} (hio : ∀ i ∈ gN g, i ∉ io) : ∀ D σ H, tS K io (wpS Φ (.forr g it body)) D σ H → tFor (tI K it (wpI Φ it)) (tGT K g) (tS K io (wpSs Φ body)) D σ H := fun D σ H ⟨Γ, Z, Os, De, ok, w, l⟩ => by
  simp only [wpS] at w
  refine ⟨Γ, Z, Os, _, ok, w, fun xs Γ1 H1 Z1 Os1 J lp ok1 e1 io1 _ => ?_⟩
  refine ⟨fun i m σ2 H2 => m = xs.length - i ∧ i ≤ xs.length ∧ ∃ Γ2 Z2 Os2, Ok K H2 Z2 Γ2 Os2 σ2 ∧
    forLoop (fun x again Γ' => ∃ Γ2, bindG g x Γ' = some Γ2 ∧ wpSs Φ body { De with nx := again, ct := again, bk := De.nx } Γ2) De.nx (xs.drop i) Γ2 ∧ Ext Os1.flatten H1 Z1 H2 Z2 Os2.flatten ∧ Par io σ σ2,
    ⟨xs.length, by simp, Nat.zero_le _, Γ1, Z1, Os1, ok1, lp, Ext.refl, Par.refl⟩, ?_⟩
  rintro i m σ2 H2 ⟨rfl, hi, Γ2, Z2, Os2, ok2, lp2, e2, p2⟩
  have kp := Keeps.of e2 ok1.own
  by_cases hlt : i < xs.length
  · refine .inr ⟨io1.goes i H2 hlt kp, _, fun σ' H' p => ⟨xs.length - (i + 1), by omega, rfl, by omega, p⟩, fun x H3 y => ?_⟩
    obtain ⟨t, Z3, ht, ft, nw⟩ := io1.yld i H2 Z2 x H3 kp e2.zz ok2.zt hlt y
    have edrop : xs.drop i = t :: xs.drop (i + 1) := by
      rw [List.drop_eq_getElem_cons hlt]
      have := List.getElem?_eq_getElem hlt
      rw [this] at ht
      cases ht
      rfl
    rw [edrop] at lp2
    obtain ⟨Γ3, hb, lp3⟩ := lp2
    have ok3 := ok2.ext0 nw.ext nw.zt
    have e3 : Ext Os1.flatten H1 Z1 H3 Z3 Os2.flatten := by
      have := nw.ext.frame Os2.flatten
      rw [List.append_nil] at this
      exact e2.trans this
    refine ⟨_, Z3, Os2, t, [], Γ3, ok3, nw.rep, by simpa using ok3.own, hb, fun σ4 Os4 ok4 sub4 kp4 => ?_⟩
    have p4 := p2.trans (kp4.par hio)
    have e4 : Ext Os1.flatten H1 Z1 H3 Z3 Os4.flatten := e3.sub fun a m => by simpa using sub4 a m
    have l4 := l.later (e1.trans e4) p4
    refine ⟨Γ3, Z3, Os4, _, ok4, lp3, ⟨fun Γ' σ' H' Z' Os' q ok' e' p' => ?_, l4.rt, fun Γ' σ' H' Z' Os' q ok' e' p' => l4.nx Γ' σ' H' Z' Os' q ok' e' p', fun Γ' σ' H' Z' Os' q ok' e' p' => ?_⟩⟩
    · exact ⟨Γ', Z', Os', ok', q, e4.trans e', p4.trans p'⟩
    · exact ⟨Γ', Z', Os', ok', q, e4.trans e', p4.trans p'⟩
  · have e : i = xs.length := by omega
    subst e
    rw [List.drop_length] at lp2
    exact .inl ⟨io1.stops H2 kp, l.nx Γ2 σ2 H2 Z2 Os2 lp2 ok2 (e1.trans e2) p2⟩
theorem vs_forr {tg iter : Expr} {body : List Stmt} {it : I} {g : G} {B : Ss} {pos : Pos} (hp : PassesOwn (model X.prog X.w) X.A X.env X.xe) (hc : X.calm = true) (hi : PI X tg iter (tI X.K it (wpI Φ it))) (hg : PG X tg (tGT X.K g)) (hb : PSs X body (tS X.K io (wpSs Φ B))) (hs : notSet iter = true) (hio : ∀ i ∈ gN g, i ∉ io) :
    PS X (.For tg iter body [] pos) (tS X.K io (wpS Φ (.forr g it B))) := (ps_for hp hc hi hg hb (fold_ok hs)).imp (forr_imp hio)
theorem whl_imp {K : PySem.W.Frag} {c : C} {body : Ss} : ∀ D σ H, tS K io (wpS Φ (.whl c body)) D σ H → tWhile (tQ K (wpC Φ c)) (tS K io (wpSs Φ body)) D σ H := fun D σ H ⟨Γ, Z, Os, De, ok, w, l⟩ => by
  simp only [wpS] at w
  obtain ⟨n, w⟩ := w
  refine ⟨fun m σ2 H2 => ∃ Γ2 Z2 Os2, Ok K H2 Z2 Γ2 Os2 σ2 ∧
    whlLoop (fun again Γ' => wpC Φ c Γ' fun d Γ1 => if d = true then wpSs Φ body { De with nx := again, ct := again, bk := De.nx } Γ1 else De.nx Γ1) m Γ2 ∧ Ext Os.flatten H Z H2 Z2 Os2.flatten ∧ Par io σ σ2,
    ⟨n, Γ, Z, Os, ok, w, Ext.refl, Par.refl⟩, ?_⟩
  rintro m σ2 H2 ⟨Γ2, Z2, Os2, ok2, lp, e2, p2⟩
  cases m with
  | zero => exact lp.elim
  | succ m =>
    refine ⟨Γ2, Z2, Os2, _, ok2, lp, fun b Γ3 H3 Z3 Os3 q3 ok3 e3 => ?_⟩
    have e23 := e2.trans e3
    cases b with
    | false => exact l.nx Γ3 σ2 H3 Z3 Os3 q3 ok3 e23 p2
    | true =>
      have l3 := l.later e23 p2
      refine ⟨_, fun σ' H' p => ⟨m, Nat.lt_succ_self m, p⟩, Γ3, Z3, Os3, _, ok3, q3, ⟨fun Γ' σ' H' Z' Os' q ok' e' p' => ?_, l3.rt, fun Γ' σ' H' Z' Os' q ok' e' p' => l3.nx Γ' σ' H' Z' Os' q ok' e' p', fun Γ' σ' H' Z' Os' q ok' e' p' => ?_⟩⟩
      · exact ⟨Γ', Z', Os', ok', q, e23.trans e', p2.trans p'⟩
      · exact ⟨Γ', Z', Os', ok', q, e23.trans e', p2.trans p'⟩
theorem vs_whl {c : Expr} {body : List Stmt} {C : C} {B : Ss} {pos : Pos} (hp : PassesOwn (model X.prog X.w) X.A X.env X.xe) (hc : PT X c (tQ X.K (wpC Φ C))) (hb : PSs X body (tS X.K io (wpSs Φ B))) : PS X (.While c body [] pos) (tS X.K io (wpS Φ (.whl C B))) :=
  (ps_while hp hc hb).imp whl_imp
/-- a list that its slot owns, gone through; the slot holds it again behind the loop -/
theorem forB_imp {K : PySem.W.Frag} {i : Nat} {g : G} {body : Ss} (hio : ∀ j ∈ gN g, j ∉ i :: io) : ∀ D σ H, tS K io (wpS Φ (.forB g i body)) D σ H → tFor (iList K (tVar i)) (tGT K g) (tS K (i :: io) (wpSs Φ body)) D σ H := fun D σ H ⟨Γ, Z, Os, De, ok, w, l⟩ => by
  simp only [wpS] at w
  obtain ⟨xs, hx, fs, lp⟩ := w
  obtain ⟨a, vs, os1, s1, s2, s3, rs⟩ := ok.lstAt hx
  have n1 := rs.nil _ fs
  subst n1
  have ow0 : Own H Z ([a] ++ (Os.set i []).flatten) := by have := ok.out i; rw [s2] at this; exact this
  have perm : ∀ b, b ∈ [a] ++ (Os.set i []).flatten → b ∈ Os.flatten := fun b m => by
    have := (flatten_take (Os := Os) (i := i)).mem_iff (a := b)
    rw [s2] at this
    exact this.mp m
  have wide : ∀ {H2 : Hp} {Z2 : Addr → Prop} {os : List Addr}, Ext (Os.set i []).flatten H Z H2 Z2 os → Ext Os.flatten H Z H2 Z2 os := fun e => e.wide fun b m => flatten_drop.subset m
  refine ⟨.ref a, s1, a, rfl, ⟨vs, .inl (.inl s3)⟩, ?_⟩
  have W := walk_list (K := K) (a := a) (xs := vs)
  have len := rs.length
  refine ⟨fun j m σ2 H2 => m = xs.length - j ∧ j ≤ xs.length ∧ ∃ Γ2 Z2 Os2, Ok K H2 Z2 Γ2 Os2 σ2 ∧
    forLoop (fun x again Γ' => ∃ Γ2, bindG g x Γ' = some Γ2 ∧ wpSs Φ body { De with nx := again, ct := again, bk := fun Γ2 => De.nx (Γ2.set i (some (.lst true xs))) } Γ2) (fun Γ2 => De.nx (Γ2.set i (some (.lst true xs)))) (xs.drop j) Γ2 ∧
    Ext (Os.set i []).flatten H Z H2 Z2 Os2.flatten ∧ Par (i :: io) σ σ2,
    ⟨xs.length, by simp, Nat.zero_le _, _, Z, _, ok.drop i, lp, Ext.refl, Par.refl⟩, ?_⟩
  -- behind the loop
  have fin : ∀ {Γ2 : Env} {Z2 : Addr → Prop} {Os2 : List (List Addr)} {σ2 : L2.St} {H2 : Hp}, De.nx (Γ2.set i (some (.lst true xs))) → Ok K H2 Z2 Γ2 Os2 σ2 → Ext (Os.set i []).flatten H Z H2 Z2 Os2.flatten → Par (i :: io) σ σ2 → D.nx σ2 H2 := fun {Γ2 Z2 Os2 σ2 H2} q ok2 e2 p2 => by
    have ow2 := ow0.frame e2 ok2.own
    have si : σ2[i]? = some (some (.ref a)) := by rw [p2 i List.mem_cons_self]; exact s1
    have il : i < Γ2.length := by rw [← ok2.ls]; exact (List.getElem?_eq_some_iff.mp si).1
    have ha2 : H2 a = some (.lst vs) := e2.same a _ s3 (ow0.apart (by simp))
    have rs2 : Reps K H2 Z2 xs [] vs := rs.ext (t := []) e2 (by simpa using ow0.right)
    have rp : Rep K H2 Z2 (.lst true xs) [a] (.ref a) := by
      simp only [Rep]
      exact ⟨a, vs, rfl, [], rfl, ha2, rs2⟩
    have okB := ok2.back il si rp ow2
    refine l.nx _ σ2 H2 Z2 _ q okB ?_ fun j m => p2 j (List.mem_cons_of_mem _ m)
    exact ((e2.frame [a]).wide perm).sub (Ok.put_sub (by rw [ok2.lo]; exact il))
  rintro j m σ2 H2 ⟨rfl, hj, Γ2, Z2, Os2, ok2, lp2, e2, p2⟩
  have ha2 : H2 a = some (.lst vs) := e2.same a _ s3 (ow0.apart (by simp))
  have sq2 : SqL K H2 a vs := .inl (.inl ha2)
  by_cases hlt : j < xs.length
  · refine .inr ⟨W.goes j H2 (by rw [← len]; exact hlt) sq2, _, fun σ' H' p => ⟨xs.length - (j + 1), by omega, rfl, by omega, p⟩, fun x H3 y => ?_⟩
    obtain ⟨rfl, hv⟩ := W.yields j H2 x H3 (by rw [← len]; exact hlt) sq2 y
    have rs2 : Reps K H3 Z2 xs [] vs := rs.ext (t := []) e2 (by simpa using ow0.right)
    have ht : xs[j]? = some xs[j] := by simp [hlt]
    obtain ⟨v, h1, h2⟩ := rs2.nilOs ht
    rw [hv] at h1
    cases h1
    have edrop : xs.drop j = xs[j] :: xs.drop (j + 1) := List.drop_eq_getElem_cons hlt
    rw [edrop] at lp2
    obtain ⟨Γ3, hb, lp3⟩ := lp2
    refine ⟨_, Z2, Os2, xs[j], [], Γ3, ok2, h2, by simpa using ok2.own, hb, fun σ4 Os4 ok4 sub4 kp4 => ?_⟩
    have p4 := p2.trans (kp4.par hio)
    have e4 : Ext (Os.set i []).flatten H Z H3 Z2 Os4.flatten := e2.sub fun b m => by simpa using sub4 b m
    refine ⟨Γ3, Z2, Os4, _, ok4, lp3, ⟨fun Γ' σ' H' Z' Os' q ok' e' p' => ?_, fun t Γ' σ' v H' Z' Os' os q ok' r' o' e' p' => ?_, fun Γ' σ' H' Z' Os' q ok' e' p' => fin q ok' (e4.trans e') (p4.trans p'), fun Γ' σ' H' Z' Os' q ok' e' p' => ?_⟩⟩
    · exact ⟨Γ', Z', Os', ok', q, e4.trans e', p4.trans p'⟩
    · exact l.rt t Γ' σ' v H' Z' Os' os q ok' r' o' (wide (e4.trans e')) fun j m => (p4.trans p') j (List.mem_cons_of_mem _ m)
    · exact ⟨Γ', Z', Os', ok', q, e4.trans e', p4.trans p'⟩
  · have e : j = xs.length := by omega
    subst e
    rw [List.drop_length] at lp2
    exact .inl ⟨by rw [len]; exact W.stops H2 sq2, fin lp2 ok2 e2 p2⟩
theorem vs_forB {tg iter : Expr} {body : List Stmt} {i : Nat} {g : G} {B : Ss} {pos : Pos} (hp : PassesOwn (model X.prog X.w) X.A X.env X.xe) (hc : X.calm = true) (hi : PE X iter (tVar i)) (hg : PG X tg (tGT X.K g)) (hb : PSs X body (tS X.K (i :: io) (wpSs Φ B))) (hs : notSet iter = true) (hio : ∀ j ∈ gN g, j ∉ i :: io) :
    PS X (.For tg iter body [] pos) (tS X.K io (wpS Φ (.forB g i B))) := (ps_for hp hc (pi_list hi) hg hb (fold_ok hs)).imp (forB_imp hio)
end
end PL

end
section
set_option maxHeartbeats 1000000
/-! PLr: chk: a text of the little language against the program's own tree. -/
namespace PL
open PySem PySem.Spec L2
open PyProof.Rows hiding St


def relS (sc scope : Scope) : Scope := { scope with names := scope.names.map fun (n, k) => if (k == .free && sc.kind == .function && sc.names.lookup n == some .cell) then (n, .cell) else (n, k) }
def seeK : Option NameKind → Bool
  | some .local => true
  | some .cell => true
  | some .free => true
  | _ => false
def locK : Option NameKind → Bool
  | some .local => true
  | some .cell => true
  | _ => false
def glK : Option NameKind → Bool
  | some .globalImplicit => true
  | _ => false
/-- what chk knows: the names of the frame, the block's scope as it is read and as it is written, the defs, the lent parameters -/
structure Tb where
  N : List Str
  sc : Scope
  sw : Scope
  fs : List (Str × List Bool)
  io : List Nat := []
def Tb.slot (b : Tb) (i : Nat) (x : Str) : Bool := decide (b.N[i]? = some x) && seeK (b.sc.names.lookup x) && !(x == ("__debug__" : Str)) && !(x == ("__classdict__" : Str))
def Tb.put (b : Tb) (i : Nat) (x : Str) : Bool := decide (b.N[i]? = some x) && locK (b.sw.names.lookup x)
def Tb.gl (b : Tb) (x : Str) : Bool := glK (b.sc.names.lookup x)
def Tb.blk (b : Tb) (scope : Scope) : Tb := { b with sc := relS b.sc scope, sw := scope }
def ownP (N : List Str) (own : List Nat) : List (Str × Nat) := own.map fun i => (N.getD i (Str.ofString ""), i)
def plainT : Expr → Bool
  | .UnaryOp .Not _ _ => false
  | .BoolOp _ _ _ => false
  | .IfExp _ _ _ _ => false
  | .Compare _ _ _ _ => false
  | _ => true
def anyComp : Scope → Str → Bool := fun s t => s.names.any fun (n, k) => n == t && (k == .local || k == .cell)

mutual
def cG : Nat → Tb → G → Expr → Bool
  | 0, _, _, _ => false
  | n + 1, b, .nm i, x => match x with
    | .Name y _ => b.put i y
    | _ => false
  | n + 1, b, .tp gs, x => match x with
    | .Tuple es _ _ => es.all notStar && cGs n b gs es
    | _ => false
def cGs : Nat → Tb → List G → List Expr → Bool
  | 0, _, _, _ => false
  | n + 1, b, [], es => es.isEmpty
  | n + 1, b, g :: gs, es => match es with
    | e :: es => cG n b g e && cGs n b gs es
    | [] => false
end
mutual
def cE : Nat → Tb → E → Expr → Bool
  | 0, _, _, _ => false
  | n + 1, b, .non, x => match x with
    | .Constant .none _ _ => true
    | _ => false
  | n + 1, b, .bl c, x => match x with
    | .Constant (.bool d) _ _ => c == d
    | _ => false
  | n + 1, b, .int i, x => match x with
    | .Constant (.int j) _ _ => decide (i = j)
    | _ => false
  | n + 1, b, .str s, x => match x with
    | .Constant (.str t) _ _ => decide (s = t)
    | _ => false
  | n + 1, b, .cp i, x => match x with
    | .Name y _ => b.slot i y
    | _ => false
  | n + 1, b, .take i, x => match x with
    | .Name y _ => b.slot i y
    | _ => false
  | n + 1, b, .fz e, x => cE n b e x
  | n + 1, b, .tup es, x => match x with
    | .Tuple xs _ _ => cEs n b es xs
    | _ => false
  | n + 1, b, .lst es, x => match x with
    | .List xs _ => cEs n b es xs
    | _ => false
  | n + 1, b, .dic0, x => match x with
    | .Dict [] [] _ => true
    | _ => false
  | n + 1, b, .op o a c, x => match x with
    | .BinOp l op r _ => decide (opA o = op) && (cE n b a l && cE n b c r)
    | _ => false
  | n + 1, b, .neg a, x => match x with
    | .UnaryOp .USub l _ => cE n b a l
    | _ => false
  | n + 1, b, .and a c, x => match x with
    | .BoolOp .And (l :: r :: rs) _ => cE n b a l && cAnd n b c (r :: rs)
    | _ => false
  | n + 1, b, .or a c, x => match x with
    | .BoolOp .Or (l :: r :: rs) _ => cE n b a l && cOr n b c (r :: rs)
    | _ => false
  | n + 1, b, .nott p, x => match x with
    | .UnaryOp .Not l _ => cP n b p l
    | _ => false
  | n + 1, b, .cmp r p q, x => match x with
    | .Compare l [op] [c] _ => decide (rlA r = op) && (!behindInMarks op c && (cP n b p l && cP n b q c))
    | _ => false
  | n + 1, b, .chain r1 r2 p q s, x => match x with
    | .Compare l [op1, op2] [c, d] _ => decide (rlA r1 = op1) && (decide (rlA r2 = op2) && (!lastMarks [op1, op2] [c, d] && (cE n b p l && (cE n b q c && cE n b s d))))
    | _ => false
  | n + 1, b, .ifx c a d, x => match x with
    | .IfExp t y z _ => cC n b c t && (cE n b a y && cE n b d z)
    | _ => false
  | n + 1, b, .idx p i, x => match x with
    | .Subscript o k _ => plainSub k && (cP n b p o && cE n b i k)
    | _ => false
  | n + 1, b, .sl p lo hi, x => match x with
    | .Subscript o (.Slice l u none _) _ => cP n b p o && (cOe n b lo l && cOe n b hi u)
    | _ => false
  | n + 1, b, .call f es, x => match x with
    | .Call (.Name y _) args [] _ => decide (b.fs[f]? = some (y, maskOf es)) && (b.gl y && (!(y == ("__debug__" : Str)) && (args.all notStar && cEs n b es args)))
    | _ => false
  | n + 1, b, .bi t p, x => match x with
    | .Call (.Name y _) [e] [] _ => decide (y = biN t) && (b.gl y && (notStar e && cP n b p e))
    | _ => false
  | n + 1, b, .mm mx a c, x => match x with
    | .Call (.Name y _) [e, f] [] _ => decide (y = mmN mx) && (b.gl y && (notStar e && (notStar f && (cE n b a e && cE n b c f))))
    | _ => false
  | n + 1, b, .isi p ty, x => match x with
    | .Call (.Name y _) [e, .Name z _] [] _ => decide (y = ("isinstance" : Str)) && (decide (z = Str.ofString (tyN ty)) && (b.gl y && (b.gl z && (notStar e && cP n b p e))))
    | _ => false
  | n + 1, b, .lc own it g c e, x => match x with
    | .ListComp elt [⟨tg, iter, ifs, as⟩] scope _ => decide (as = 0) && (notSet iter && (blkC b.N b.sc scope (ownP b.N own) && ((gN g).all (fun i => decide (i ∈ own)) && (cI n b it tg iter && (cG n (b.blk scope) g tg && (cOc n (b.blk scope) c ifs && cE n (b.blk scope) e elt))))))
    | _ => false
  | n + 1, b, .pop i, x => match x with
    | .Call (.Attribute (.Name y _) m apos) [] [] cpos => decide (m = ("pop" : Str)) && (b.slot i y && lineOk apos cpos)
    | _ => false
  | n + 1, b, .get p k d, x => match x with
    | .Call (.Attribute o m apos) [e, f] [] cpos => decide (m = ("get" : Str)) && (notCall0 o && (lineOk apos cpos && (notStar e && (notStar f && (cP n b p o && (cE n b k e && cE n b d f))))))
    | _ => false
  | n + 1, b, .index p k, x => match x with
    | .Call (.Attribute o m apos) [e] [] cpos => decide (m = ("index" : Str)) && (notCall0 o && (lineOk apos cpos && (notStar e && (cP n b p o && cE n b k e))))
    | _ => false
  | n + 1, b, .lrg a c, x => match x with
    | .Call (.Name y _) [.Call (.Name z _) [e, f] [] _] [] _ => decide (y = ("list" : Str)) && (decide (z = ("range" : Str)) && (b.gl y && (b.gl z && (notStar e && (notStar f && (cE n b a e && cE n b c f))))))
    | .Call (.Name y _) [.Call (.Name z _) [f] [] _] [] _ => (match a with
      | .int i => decide (i = 0)
      | _ => false) && (decide (y = ("list" : Str)) && (decide (z = ("range" : Str)) && (b.gl y && (b.gl z && (notStar f && cE n b c f)))))
    | _ => false
def cAnd : Nat → Tb → E → List Expr → Bool
  | 0, _, _, _ => false
  | n + 1, b, a, xs => match xs with
    | [x] => cE n b a x
    | x :: y :: ys => match a with
      | .and a c => cE n b a x && cAnd n b c (y :: ys)
      | _ => false
    | [] => false
def cOr : Nat → Tb → E → List Expr → Bool
  | 0, _, _, _ => false
  | n + 1, b, a, xs => match xs with
    | [x] => cE n b a x
    | x :: y :: ys => match a with
      | .or a c => cE n b a x && cOr n b c (y :: ys)
      | _ => false
    | [] => false
def cEs : Nat → Tb → Es → List Expr → Bool
  | 0, _, _, _ => false
  | n + 1, b, .nil, xs => xs.isEmpty
  | n + 1, b, .cons e es, xs => match xs with
    | x :: xs => notStar x && (cE n b e x && cEs n b es xs)
    | [] => false
  | n + 1, b, .lend i es, xs => match xs with
    | .Name y _ :: xs => b.slot i y && cEs n b es xs
    | _ => false
def cP : Nat → Tb → P → Expr → Bool
  | 0, _, _, _ => false
  | n + 1, b, .var i, x => match x with
    | .Name y _ => b.slot i y
    | _ => false
  | n + 1, b, .tmp e, x => cE n b e x
def cOe : Nat → Tb → Oe → Option Expr → Bool
  | 0, _, _, _ => false
  | n + 1, b, .no, x => x.isNone
  | n + 1, b, .so e, x => match x with
    | some x => cE n b e x
    | none => false
def cC : Nat → Tb → C → Expr → Bool
  | 0, _, _, _ => false
  | n + 1, b, .val p, x => plainT x && cP n b p x
  | n + 1, b, .and a c, x => match x with
    | .BoolOp .And (l :: r :: rs) _ => cC n b a l && cCAnd n b c (r :: rs)
    | _ => false
  | n + 1, b, .or a c, x => match x with
    | .BoolOp .Or (l :: r :: rs) _ => cC n b a l && cCOr n b c (r :: rs)
    | _ => false
  | n + 1, b, .not a, x => match x with
    | .UnaryOp .Not l _ => cC n b a l
    | _ => false
  | n + 1, b, .cmp r p q, x => match x with
    | .Compare l [op] [c] _ => decide (rlA r = op) && (!behindInMarks op c && (cP n b p l && cP n b q c))
    | _ => false
  | n + 1, b, .chain r1 r2 p q s, x => match x with
    | .Compare l [op1, op2] [c, d] _ => decide (rlA r1 = op1) && (decide (rlA r2 = op2) && (!lastMarks [op1, op2] [c, d] && (cE n b p l && (cE n b q c && cE n b s d))))
    | _ => false
def cCAnd : Nat → Tb → C → List Expr → Bool
  | 0, _, _, _ => false
  | n + 1, b, a, xs => match xs with
    | [x] => cC n b a x
    | x :: y :: ys => match a with
      | .and a c => cC n b a x && cCAnd n b c (y :: ys)
      | _ => false
    | [] => false
def cCOr : Nat → Tb → C → List Expr → Bool
  | 0, _, _, _ => false
  | n + 1, b, a, xs => match xs with
    | [x] => cC n b a x
    | x :: y :: ys => match a with
      | .or a c => cC n b a x && cCOr n b c (y :: ys)
      | _ => false
    | [] => false
def cOc : Nat → Tb → Oc → List Expr → Bool
  | 0, _, _, _ => false
  | n + 1, b, .no, xs => xs.isEmpty
  | n + 1, b, .so c, xs => match xs with
    | [x] => cC n b c x
    | _ => false
def cI : Nat → Tb → I → Expr → Expr → Bool
  | 0, _, _, _, _ => false
  | n + 1, b, .seq p, _, x => cP n b p x
  | n + 1, b, .rng1 a, _, x => match x with
    | .Call (.Name y _) [e] [] _ => decide (y = ("range" : Str)) && (b.gl y && (notStar e && cE n b a e))
    | _ => false
  | n + 1, b, .rng2 a c, _, x => match x with
    | .Call (.Name y _) [e, f] [] _ => decide (y = ("range" : Str)) && (b.gl y && (notStar e && (notStar f && (cE n b a e && cE n b c f))))
    | _ => false
  | n + 1, b, .enum p, tg, x => match tg, x with
    | .Tuple _ _ _, .Call (.Name y _) [e] [] _ => decide (y = ("enumerate" : Str)) && (b.gl y && (notStar e && cP n b p e))
    | _, _ => false
  | n + 1, b, .zip2 p q, tg, x => match tg, x with
    | .Tuple _ _ _, .Call (.Name y _) [e, f] [] _ => decide (y = ("zip" : Str)) && (b.gl y && (notStar e && (notStar f && (cP n b p e && cP n b q f))))
    | _, _ => false
  | n + 1, b, .zip3 p q r, tg, x => match x with
    | .Call (.Name y _) [e, f, g] [] _ => (plainTg tg || !notTup tg) && (decide (y = ("zip" : Str)) && (b.gl y && (notStar e && (notStar f && (notStar g && (cP n b p e && (cP n b q f && cP n b r g)))))))
    | _ => false
end
mutual
def cS : Nat → Tb → S → Stmt → Bool
  | 0, _, _, _ => false
  | n + 1, b, .asg g e, x => match x with
    | .Assign [tg] v pos => (gN g).all (fun i => !decide (i ∈ b.io)) && (cG n b g tg && (cE n b e v && (match tg with
      | .Name y p => plainV v || (match e with
        | .lc _ _ _ _ _ => (match v with
          | .ListComp _ _ s vp => (match b.sc.names.lookup y with
              | some .local => true
              | _ => false) && (decide (p.line = vp.line) && !anyComp s y)
          | _ => false)
        | _ => false)
      | .Tuple _ _ _ => notTup v
      | _ => false)))
    | _ => false
  | n + 1, b, .setIx i k e, x => match x with
    | .Assign [.Subscript (.Name y _) kx _] v _ => b.slot i y && (plainSub kx && (cE n b k kx && cE n b e v))
    | _ => false
  | n + 1, b, .aug i o e, x => match x with
    | .AugAssign (.Name y _) op v _ => decide (opA o = op) && (!decide (i ∈ b.io) && (b.put i y && cE n b e v))
    | _ => false
  | n + 1, b, .app i e, x => match x with
    | .Expr (.Call (.Attribute (.Name y _) m apos) [v] [] cpos) _ => decide (m = ("append" : Str)) && (b.slot i y && (lineOk apos cpos && (notStar v && cE n b e v)))
    | _ => false
  | n + 1, b, .ext i p, x => match x with
    | .Expr (.Call (.Attribute (.Name y _) m apos) [v] [] cpos) _ => decide (m = ("extend" : Str)) && (b.slot i y && (lineOk apos cpos && (notStar v && cP n b p v)))
    | _ => false
  | n + 1, b, .ex e, x => match x with
    | .Expr v _ => plainV v && cE n b e v
    | _ => false
  | n + 1, b, .ret e, x => match x with
    | .Return (some v) _ => cE n b e v
    | _ => false
  | n + 1, b, .retN, x => match x with
    | .Return none _ => true
    | _ => false
  | n + 1, b, .iff c a d, x => match x with
    | .If t y z _ => cC n b c t && (cSs n b a y && cSs n b d z)
    | _ => false
  | n + 1, b, .forr g it body, x => match x with
    | .For tg iter y [] _ => (gN g).all (fun i => !decide (i ∈ b.io)) && (notSet iter && (cI n b it tg iter && (cG n b g tg && cSs n b body y)))
    | _ => false
  | n + 1, b, .forB g i body, x => match x with
    | .For tg (.Name z _) y [] _ => (gN g).all (fun j => !decide (j ∈ i :: b.io)) && (b.slot i z && (cG n b g tg && cSs n { b with io := i :: b.io } body y))
    | _ => false
  | n + 1, b, .whl c body, x => match x with
    | .While t y [] _ => cC n b c t && cSs n b body y
    | _ => false
  | n + 1, b, .brk, x => match x with
    | .Break _ => true
    | _ => false
  | n + 1, b, .cnt, x => match x with
    | .Continue _ => true
    | _ => false
  | n + 1, b, .pas, x => match x with
    | .Pass _ => true
    | _ => false
  | n + 1, b, .kill _, x => false
  | n + 1, b, .frz _, x => false
def cSs : Nat → Tb → Ss → List Stmt → Bool
  | 0, _, _, _ => false
  | n + 1, b, .nil, xs => xs.isEmpty
  | n + 1, b, .cons s ss, xs => match s with
    | .kill _ => cSs n b ss xs
    | .frz _ => cSs n b ss xs
    | s => match xs with
      | x :: xs => cS n b s x && cSs n b ss xs
      | [] => false
end
end PL

end
section
set_option maxHeartbeats 1000000
/-! PLs: what chk passes is as the little language says. -/
namespace PL
open PySem PySem.Spec L2
open PyProof.Rows hiding St

def bltN : List Str := ["len", "list", "tuple", "int", "sorted", "abs", "sum", "all", "any", "str", "isinstance", "bool", "max", "min", "range", "enumerate", "zip"]
structure Cxt (X : Cx) (Φ : Nat → Spec) (b : Tb) : Prop where
  N : X.N = b.N
  sc : X.env.scope = b.sc
  kd : b.sc.kind = .function
  calm : X.calm = true
  nd : b.N.Nodup
  st : ∀ x, locK (b.sw.names.lookup x) = true → L2.Loc b.sc x ∧ (X.fn x = true ∨ b.sc.names.lookup x = some .local)
  hu : X.A.units + 80 < cLine
  mg : ∀ x ∈ bltN, X.mg x = none
  fns : ∀ f x m, b.fs[f]? = some (x, m) → FnAt X x m (Φ f)

theorem seeK_vis {o : Option NameKind} (h : seeK o = true) : o = some .local ∨ o = some .cell ∨ o = some .free := by
  cases o with
  | none => cases h
  | some k => cases k <;> first | (cases h; done) | simp
theorem locK_or {o : Option NameKind} (h : locK o = true) : o = some .local ∨ o = some .cell := by
  cases o with
  | none => cases h
  | some k => cases k <;> first | (cases h; done) | simp
theorem glK_eq {o : Option NameKind} (h : glK o = true) : o = some .globalImplicit := by
  cases o with
  | none => cases h
  | some k => cases k <;> first | (cases h; done) | rfl
theorem rel_loc {sc : Scope} {x : Str} : ∀ {names : List (Str × NameKind)}, locK (names.lookup x) = true →
    (names.map fun (n, k) => if (k == .free && sc.kind == .function && sc.names.lookup n == some .cell) then (n, NameKind.cell) else (n, k)).lookup x = names.lookup x
  | [], h => by cases h
  | (n, k) :: r, h => by
    rw [List.map_cons]
    rw [List.lookup_cons] at h ⊢
    by_cases e : (x == n) = true
    · rw [e] at h
      have hk := locK_or h
      have : (k == NameKind.free) = false := by
        rcases hk with q | q <;> (cases q; rfl)
      simp only [this, Bool.false_and, Bool.false_eq_true, if_false, e]
      rw [List.lookup_cons, e]
    · have e' : (x == n) = false := by simpa using e
      rw [e'] at h
      have ih := rel_loc (sc := sc) h
      by_cases c : (k == NameKind.free && sc.kind == ScopeKind.function && sc.names.lookup n == some NameKind.cell) = true
      · simp only [c, if_true]
        rw [List.lookup_cons, e']
        exact ih
      · rw [if_neg c, List.lookup_cons, e']
        exact ih
section
variable {X : Cx} {Φ : Nat → Spec} {b : Tb}
theorem Cxt.gl (c : Cxt X Φ b) {x : Str} (h : b.gl x = true) : Gl X x := by
  unfold Gl PySem.Env.kindOf
  rw [c.sc]
  exact glK_eq h
theorem Cxt.var (c : Cxt X Φ b) {i : Nat} {x : Str} {pos : Pos} (h : b.slot i x = true) : PE X (.Name x pos) (tVar i) := by
  unfold Tb.slot at h
  simp only [Bool.and_eq_true, Bool.not_eq_true', decide_eq_true_eq] at h
  obtain ⟨⟨⟨h1, h2⟩, h3⟩, h4⟩ := h
  exact pe_var (by rw [c.N]; exact h1) (by unfold Vis; rw [c.sc]; exact seeK_vis h2) h3 h4
theorem Cxt.nm (c : Cxt X Φ b) {i : Nat} {x : Str} (h : b.put i x = true) : X.N[i]? = some x ∧ L2.Loc X.env.scope x ∧ (X.fn x = true ∨ X.env.scope.names.lookup x = some .local) := by
  unfold Tb.put at h
  simp only [Bool.and_eq_true, decide_eq_true_eq] at h
  rw [c.N, c.sc]
  exact ⟨h.1, c.st x h.2⟩
theorem Cxt.blk (c : Cxt X Φ b) {scope : Scope} (hk : scope.kind = .function) (s : Shared) (H : Hp) (C : Addr) (cl : List (Str × Addr)) (fp : List Addr) : Cxt (X.blk s H scope (compEnvC scope cl C X.env) fp) Φ (b.blk scope) := by
  refine ⟨c.N, ?_, hk, c.calm, c.nd, fun x h => ?_, c.hu, c.mg, fun f x m h => ⟨(c.fns f x m h).ex⟩⟩
  · show relabel scope X.env = relS b.sc scope
    unfold relabel relS PySem.Env.kindOf
    rw [c.sc]
  · have h : locK (scope.names.lookup x) = true := h
    have e : (relS b.sc scope).names.lookup x = scope.names.lookup x := rel_loc h
    show (L2.Loc (relS b.sc scope) x) ∧ ((scope.names.lookup x == some NameKind.cell) = true ∨ (relS b.sc scope).names.lookup x = some .local)
    unfold L2.Loc
    rw [e]
    rcases locK_or h with q | q
    · exact ⟨.inl q, .inr q⟩
    · exact ⟨.inr q, .inl (by rw [q]; rfl)⟩
end
/-- all that a fuel of n passes -/
structure Snd (Φ : Nat → Spec) (n : Nat) : Prop where
  e : ∀ {X : Cx} {b : Tb}, Cxt X Φ b → ∀ e x, cE n b e x = true → PE X x (tV X.K (wpE Φ e))
  and : ∀ {X : Cx} {b : Tb}, Cxt X Φ b → ∀ e xs pos, cAnd n b e xs = true → PE X (.BoolOp .And xs pos) (tV X.K (wpE Φ e))
  or : ∀ {X : Cx} {b : Tb}, Cxt X Φ b → ∀ e xs pos, cOr n b e xs = true → PE X (.BoolOp .Or xs pos) (tV X.K (wpE Φ e))
  es : ∀ {X : Cx} {b : Tb}, Cxt X Φ b → ∀ e xs, cEs n b e xs = true → PA X xs (tL X.K e (wpEs Φ e))
  p : ∀ {X : Cx} {b : Tb}, Cxt X Φ b → ∀ e x, cP n b e x = true → PE X x (tP X.K e (wpP Φ e))
  oe : ∀ {X : Cx} {b : Tb}, Cxt X Φ b → ∀ e x, cOe n b e x = true → PO X x (tO X.K (wpOe Φ e))
  c : ∀ {X : Cx} {b : Tb}, Cxt X Φ b → ∀ e x, cC n b e x = true → PT X x (tQ X.K (wpC Φ e))
  cand : ∀ {X : Cx} {b : Tb}, Cxt X Φ b → ∀ e xs pos, cCAnd n b e xs = true → PW X (.BoolOp .And xs pos) (tQ X.K (wpC Φ e))
  cor : ∀ {X : Cx} {b : Tb}, Cxt X Φ b → ∀ e xs pos, cCOr n b e xs = true → PW X (.BoolOp .Or xs pos) (tQ X.K (wpC Φ e))
  oc : ∀ {X : Cx} {b : Tb}, Cxt X Φ b → ∀ e xs, cOc n b e xs = true → PTs X xs (tQ X.K (wpOc Φ e))
  i : ∀ {X : Cx} {b : Tb}, Cxt X Φ b → ∀ e tg x, cI n b e tg x = true → PI X tg x (tI X.K e (wpI Φ e))
/-- targets -/
structure SndG (Φ : Nat → Spec) (n : Nat) : Prop where
  g : ∀ {X : Cx} {b : Tb}, Cxt X Φ b → ∀ g x, cG n b g x = true → PG X x (tGT X.K g)
  gs : ∀ {X : Cx} {b : Tb}, Cxt X Φ b → ∀ gs xs, cGs n b gs xs = true → xs.all notStar = true → PGs X xs (tGTs X.K gs) ∧ xs.length = gs.length
section
variable {Φ : Nat → Spec}
theorem sndG : ∀ n, SndG Φ n
  | 0 => ⟨fun _ g x h => by simp [cG] at h, fun _ g x h => by simp [cGs] at h⟩
  | n + 1 => by
    have ih := sndG n
    refine ⟨fun {X b} c g x h => ?_, fun {X b} c gs xs h hs => ?_⟩
    · cases g with
      | nm i =>
        cases x with
        | Name y p =>
          simp only [cG] at h
          obtain ⟨h1, h2, h3⟩ := c.nm h
          exact vg_nm (by rw [c.N]; exact c.nd) h1 h2 h3
        | _ => simp [cG] at h
      | tp gs =>
        cases x with
        | Tuple es k p =>
          simp only [cG, Bool.and_eq_true] at h
          obtain ⟨h1, h2⟩ := ih.gs c gs es h.2 h.1
          exact vg_tp c.calm h1 h2 h.1
        | _ => simp [cG] at h
    · cases gs with
      | nil =>
        cases xs with
        | nil => exact ⟨vgs_nil, rfl⟩
        | cons x xs => simp [cGs] at h
      | cons g gs =>
        cases xs with
        | nil => simp [cGs] at h
        | cons x xs =>
          simp only [cGs, Bool.and_eq_true] at h
          simp only [List.all_cons, Bool.and_eq_true] at hs
          obtain ⟨h1, h2⟩ := ih.gs c gs xs h.2 hs.2
          exact ⟨vgs_cons (ih.g c g x h.1) h1 hs.1, by simp [h2]⟩
end
end PL

end
section
set_option maxHeartbeats 1000000
/-! PLt: the expressions. -/
namespace PL
open PySem PySem.Spec L2
open PyProof.Rows hiding St

section
variable {Φ : Nat → Spec} {n : Nat}
theorem snd_e (ih : Snd Φ n) {X : Cx} {b : Tb} (c : Cxt X Φ b) : ∀ e x, cE (n + 1) b e x = true → PE X x (tV X.K (wpE Φ e)) := fun e x h => by
  have hu1 : X.A.units + 1 < cLine := by have := c.hu; omega
  have hu65 : X.A.units + 65 < cLine := by have := c.hu; omega
  have mg : ∀ x ∈ bltN, X.mg x = none := c.mg
  cases e with
  | non =>
    cases x with
    | Constant k _ _ => cases k <;> first | (simp [cE] at h; done) | exact ve_c pe_non (fun _ _ => rep_non) fun Γ Q w => by simpa only [wpE] using w
    | _ => simp [cE] at h
  | bl d =>
    cases x with
    | Constant k _ _ =>
      cases k with
      | bool d' =>
        simp only [cE, beq_iff_eq] at h
        subst h
        exact ve_c pe_bl (fun _ _ => rep_bl) fun Γ Q w => by simpa only [wpE] using w
      | _ => simp [cE] at h
    | _ => simp [cE] at h
  | int d =>
    cases x with
    | Constant k _ _ =>
      cases k with
      | int d' =>
        simp only [cE, decide_eq_true_eq] at h
        subst h
        exact ve_c pe_int (fun _ _ => rep_int) fun Γ Q w => by simpa only [wpE] using w
      | _ => simp [cE] at h
    | _ => simp [cE] at h
  | str d =>
    cases x with
    | Constant k _ _ =>
      cases k with
      | str d' =>
        simp only [cE, decide_eq_true_eq] at h
        subst h
        exact ve_c pe_str (fun _ _ => rep_str) fun Γ Q w => by simpa only [wpE] using w
      | _ => simp [cE] at h
    | _ => simp [cE] at h
  | cp i =>
    cases x with
    | Name y p => exact ve_cp (c.var (by simpa only [cE] using h))
    | _ => simp [cE] at h
  | take i =>
    cases x with
    | Name y p => exact ve_take (c.var (by simpa only [cE] using h))
    | _ => simp [cE] at h
  | fz e => exact ve_fz (ih.e c e x (by simpa only [cE] using h))
  | tup es =>
    cases x with
    | Tuple xs _ _ => exact ve_tup (vl_va (ih.es c es xs (by simpa only [cE] using h)))
    | _ => simp [cE] at h
  | lst es =>
    cases x with
    | List xs _ => exact ve_lst (vl_va (ih.es c es xs (by simpa only [cE] using h)))
    | _ => simp [cE] at h
  | dic0 =>
    cases x with
    | Dict ks vs p =>
      cases ks with
      | nil =>
        cases vs with
        | nil => exact ve_dic0
        | cons _ _ => simp [cE] at h
      | cons _ _ => simp [cE] at h
    | _ => simp [cE] at h
  | op o a d =>
    cases x with
    | BinOp l op r p =>
      simp only [cE, Bool.and_eq_true, decide_eq_true_eq] at h
      obtain ⟨rfl, h1, h2⟩ := h
      exact ve_op (ih.e c _ _ h1) (ih.e c _ _ h2)
    | _ => simp [cE] at h
  | neg a =>
    cases x with
    | UnaryOp u l p =>
      cases u with
      | USub => exact ve_neg (ih.e c _ _ (by simpa only [cE] using h))
      | _ => simp [cE] at h
    | _ => simp [cE] at h
  | and a d =>
    cases x with
    | BoolOp o xs p =>
      cases o with
      | And =>
        cases xs with
        | nil => simp [cE] at h
        | cons l xs =>
          cases xs with
          | nil => simp [cE] at h
          | cons r rs =>
            simp only [cE, Bool.and_eq_true] at h
            exact ve_and (ih.e c _ _ h.1) (ih.and c _ _ _ h.2)
      | Or => simp [cE] at h
    | _ => simp [cE] at h
  | or a d =>
    cases x with
    | BoolOp o xs p =>
      cases o with
      | Or =>
        cases xs with
        | nil => simp [cE] at h
        | cons l xs =>
          cases xs with
          | nil => simp [cE] at h
          | cons r rs =>
            simp only [cE, Bool.and_eq_true] at h
            exact ve_or (ih.e c _ _ h.1) (ih.or c _ _ _ h.2)
      | And => simp [cE] at h
    | _ => simp [cE] at h
  | nott p =>
    cases x with
    | UnaryOp u l _ =>
      cases u with
      | Not => exact ve_nott (ih.p c _ _ (by simpa only [cE] using h))
      | _ => simp [cE] at h
    | _ => simp [cE] at h
  | cmp r p q =>
    cases x with
    | Compare l ops cs _ =>
      cases ops with
      | nil => simp [cE] at h
      | cons op ops =>
        cases ops with
        | cons _ _ => simp [cE] at h
        | nil =>
          cases cs with
          | nil => simp [cE] at h
          | cons d cs =>
            cases cs with
            | cons _ _ => simp [cE] at h
            | nil =>
              simp only [cE, Bool.and_eq_true, decide_eq_true_eq, Bool.not_eq_true'] at h
              obtain ⟨rfl, h1, h2, h3⟩ := h
              exact ve_cmp hu65 (ih.p c _ _ h2) (ih.p c _ _ h3) h1
    | _ => simp [cE] at h
  | chain r1 r2 p q s =>
    cases x with
    | Compare l ops cs _ =>
      match ops, cs, h with
      | [op1, op2], [d, e], h =>
        simp only [cE, Bool.and_eq_true, decide_eq_true_eq, Bool.not_eq_true'] at h
        obtain ⟨rfl, rfl, h1, h2, h3, h4⟩ := h
        exact ve_chain hu65 (ih.e c _ _ h2) (ih.e c _ _ h3) (ih.e c _ _ h4) h1
      | [], _, h => simp [cE] at h
      | [_], _, h => simp [cE] at h
      | _ :: _ :: _ :: _, _, h => simp [cE] at h
      | [_, _], [], h => simp [cE] at h
      | [_, _], [_], h => simp [cE] at h
      | [_, _], _ :: _ :: _ :: _, h => simp [cE] at h
    | _ => simp [cE] at h
  | ifx t a d =>
    cases x with
    | IfExp t' y z _ =>
      simp only [cE, Bool.and_eq_true] at h
      exact ve_ifx (ih.c c _ _ h.1) (ih.e c _ _ h.2.1) (ih.e c _ _ h.2.2)
    | _ => simp [cE] at h
  | idx p i =>
    cases x with
    | Subscript o k _ =>
      simp only [cE, Bool.and_eq_true] at h
      exact ve_idx hu1 (ih.p c _ _ h.2.1) (ih.e c _ _ h.2.2) (plainIx h.1)
    | _ => simp [cE] at h
  | sl p lo hi =>
    cases x with
    | Subscript o k _ =>
      cases k with
      | Slice l u st _ =>
        cases st with
        | none =>
          simp only [cE, Bool.and_eq_true] at h
          exact ve_sl (ih.p c _ _ h.1) (ih.oe c _ _ h.2.1) (ih.oe c _ _ h.2.2)
        | some _ => simp [cE] at h
      | _ => simp [cE] at h
    | _ => simp [cE] at h
  | call f es =>
    cases x with
    | Call fn args kws _ =>
      cases kws with
      | cons _ _ => cases fn <;> simp [cE] at h
      | nil =>
        cases fn with
        | Name y _ =>
          simp only [cE, Bool.and_eq_true, decide_eq_true_eq, Bool.not_eq_true'] at h
          obtain ⟨h1, h2, h3, h4, h5⟩ := h
          have F := c.fns f y (maskOf es) h1
          have A := ih.es c es args h5
          cases args with
          | cons a as => exact ve_call F (c.gl h2) h3 A h4
          | nil =>
            cases es with
            | nil => exact ve_call0 F (c.gl h2) h3
            | cons _ _ => cases n <;> simp [cEs] at h5
            | lend _ _ => cases n <;> simp [cEs] at h5
        | _ => simp [cE] at h
    | _ => simp [cE] at h
  | bi t p =>
    simp only [cE] at h
    split at h
    · simp only [Bool.and_eq_true, decide_eq_true_eq] at h
      obtain ⟨rfl, h1, h2, h3⟩ := h
      exact ve_bi c.calm c.hu (c.gl h1) (mg _ (by cases t <;> decide)) (ih.p c _ _ h3) h2
    · cases h
  | lrg a d =>
    simp only [cE] at h
    split at h
    · simp only [Bool.and_eq_true, decide_eq_true_eq] at h
      obtain ⟨rfl, rfl, h1, h2, h3, h4, h5, h6⟩ := h
      exact ve_lrg2 c.calm (c.gl h1) (mg _ (by decide)) (c.gl h2) (mg _ (by decide)) (ih.e c _ _ h5) (ih.e c _ _ h6) ⟨h3, h4⟩
    · simp only [Bool.and_eq_true, decide_eq_true_eq] at h
      obtain ⟨h0, rfl, rfl, h1, h2, h3, h4⟩ := h
      split at h0
      · simp only [decide_eq_true_eq] at h0
        subst h0
        exact ve_lrg1 c.calm (c.gl h1) (mg _ (by decide)) (c.gl h2) (mg _ (by decide)) (ih.e c _ _ h4) h3
      · cases h0
    · cases h
  | mm mx a d =>
    simp only [cE] at h
    split at h
    · simp only [Bool.and_eq_true, decide_eq_true_eq] at h
      obtain ⟨rfl, h1, h2, h3, h4, h5⟩ := h
      exact ve_mm c.calm (c.gl h1) (mg _ (by cases mx <;> decide)) (ih.e c _ _ h4) (ih.e c _ _ h5) ⟨h2, h3⟩
    · cases h
  | isi p ty =>
    simp only [cE] at h
    split at h
    · simp only [Bool.and_eq_true, decide_eq_true_eq] at h
      obtain ⟨rfl, rfl, h1, h2, h3, h4⟩ := h
      exact ve_isi (c.gl h1) (mg _ (by decide)) (c.gl h2) (mg _ (by cases ty <;> decide)) (ih.p c _ _ h4) h3
    · cases h
  | lc own it g d e =>
    simp only [cE] at h
    split at h
    · simp only [Bool.and_eq_true, decide_eq_true_eq] at h
      obtain ⟨rfl, h1, h2, h3, h4, h5, h6, h7⟩ := h
      have ok := blkOk_by h2
      have ow : (ownP b.N own).map (·.2) = own := by unfold ownP; rw [List.map_map]; exact List.map_id own
      have r := fun pos => ve_lc (pos := pos) (Φ := Φ) (g := g) (c := d) (e := e) c.calm (by rw [c.N]; exact c.nd) (ih.i c _ _ _ h4) (by rw [c.N, c.sc]; exact ok) (fun s H C cl fp => (sndG n).g (c.blk ok.kind s H C cl fp) _ _ h5) (fun s H C cl fp => ih.oc (c.blk ok.kind s H C cl fp) _ _ h6)
        (fun s H C cl fp => ih.e (c.blk ok.kind s H C cl fp) _ _ h7) h1 (by rw [ow]; intro i hi; exact of_decide_eq_true (List.all_eq_true.mp h3 i hi))
      simp only [ow] at r
      exact r _
    · cases h
  | pop i =>
    simp only [cE] at h
    split at h
    · simp only [Bool.and_eq_true, decide_eq_true_eq] at h
      obtain ⟨rfl, h1, h2⟩ := h
      exact ve_pop (c.var h1) rfl h2
    · cases h
  | get p k d =>
    simp only [cE] at h
    split at h
    · simp only [Bool.and_eq_true, decide_eq_true_eq] at h
      obtain ⟨rfl, h1, h2, h3, h4, h5, h6, h7⟩ := h
      exact ve_get hu1 (ih.p c _ _ h5) (ih.e c _ _ h6) (ih.e c _ _ h7) h1 h2 ⟨h3, h4⟩
    · cases h
  | index p k =>
    simp only [cE] at h
    split at h
    · simp only [Bool.and_eq_true, decide_eq_true_eq] at h
      obtain ⟨rfl, h1, h2, h3, h4, h5⟩ := h
      exact ve_index hu65 (ih.p c _ _ h4) (ih.e c _ _ h5) h1 h2 h3
    · cases h
theorem snd_and (ih : Snd Φ n) {X : Cx} {b : Tb} (c : Cxt X Φ b) : ∀ e xs pos, cAnd (n + 1) b e xs = true → PE X (.BoolOp .And xs pos) (tV X.K (wpE Φ e)) := fun e xs pos h => by
  match xs, h with
  | [], h => simp [cAnd] at h
  | [x], h => exact pe_one (ih.e c _ _ (by simpa only [cAnd] using h))
  | x :: y :: ys, h =>
    cases e <;> first | (simp [cAnd] at h; done) | skip
    simp only [cAnd, Bool.and_eq_true] at h
    exact ve_and (ih.e c _ _ h.1) (ih.and c _ _ _ h.2)
theorem snd_or (ih : Snd Φ n) {X : Cx} {b : Tb} (c : Cxt X Φ b) : ∀ e xs pos, cOr (n + 1) b e xs = true → PE X (.BoolOp .Or xs pos) (tV X.K (wpE Φ e)) := fun e xs pos h => by
  match xs, h with
  | [], h => simp [cOr] at h
  | [x], h => exact pe_one (ih.e c _ _ (by simpa only [cOr] using h))
  | x :: y :: ys, h =>
    cases e <;> first | (simp [cOr] at h; done) | skip
    simp only [cOr, Bool.and_eq_true] at h
    exact ve_or (ih.e c _ _ h.1) (ih.or c _ _ _ h.2)
theorem snd_es (ih : Snd Φ n) {X : Cx} {b : Tb} (c : Cxt X Φ b) : ∀ e xs, cEs (n + 1) b e xs = true → PA X xs (tL X.K e (wpEs Φ e)) := fun e xs h => by
  cases e with
  | nil =>
    cases xs with
    | nil => exact vl_nil
    | cons _ _ => simp [cEs] at h
  | cons e es =>
    cases xs with
    | nil => simp [cEs] at h
    | cons x xs =>
      simp only [cEs, Bool.and_eq_true] at h
      exact vl_cons (ih.e c _ _ h.2.1) (ih.es c _ _ h.2.2) (star_cons h.1)
  | lend i es =>
    simp only [cEs] at h
    split at h
    · simp only [Bool.and_eq_true] at h
      exact vl_lend (c.var h.1) (ih.es c _ _ h.2) (star_cons rfl)
    · cases h
theorem snd_p (ih : Snd Φ n) {X : Cx} {b : Tb} (c : Cxt X Φ b) : ∀ e x, cP (n + 1) b e x = true → PE X x (tP X.K e (wpP Φ e)) := fun e x h => by
  cases e with
  | var i =>
    simp only [cP] at h
    split at h
    · exact vp_var (c.var h)
    · cases h
  | tmp e => exact vp_tmp (ih.e c _ _ (by simpa only [cP] using h))
theorem snd_oe (ih : Snd Φ n) {X : Cx} {b : Tb} (c : Cxt X Φ b) : ∀ e x, cOe (n + 1) b e x = true → PO X x (tO X.K (wpOe Φ e)) := fun e x h => by
  cases e with
  | no =>
    cases x with
    | none => exact vo_no
    | some _ => simp [cOe] at h
  | so e =>
    cases x with
    | none => simp [cOe] at h
    | some x => exact vo_so (ih.e c _ _ (by simpa only [cOe] using h))
theorem plain_true {x : Expr} (h : plainT x = true) {env : PySem.Env} : ∀ whole, isTrue x env whole = (do let v ← whole; standAt x.pos; holding [v] (truthy v)) := fun whole => by
  cases x <;> first | rfl | (cases h; done) | skip
  rename_i u l p
  cases u <;> first | rfl | (cases h; done)
theorem snd_c (ih : Snd Φ n) {X : Cx} {b : Tb} (c : Cxt X Φ b) : ∀ e x, cC (n + 1) b e x = true → PT X x (tQ X.K (wpC Φ e)) := fun e x h => by
  have hu65 : X.A.units + 65 < cLine := by have := c.hu; omega
  cases e with
  | val p =>
    simp only [cC, Bool.and_eq_true] at h
    exact vt_val (ih.p c _ _ h.2) (plain_true h.1)
  | and a d =>
    simp only [cC] at h
    split at h
    · simp only [Bool.and_eq_true] at h
      exact (vw_and (ih.c c _ _ h.1) (ih.cand c _ _ _ h.2)).pt
    · cases h
  | or a d =>
    simp only [cC] at h
    split at h
    · simp only [Bool.and_eq_true] at h
      exact (vw_or (ih.c c _ _ h.1) (ih.cor c _ _ _ h.2)).pt
    · cases h
  | not a =>
    simp only [cC] at h
    split at h
    · exact vt_not (ih.c c _ _ h)
    · cases h
  | cmp r p q =>
    simp only [cC] at h
    split at h
    · simp only [Bool.and_eq_true, decide_eq_true_eq, Bool.not_eq_true'] at h
      obtain ⟨rfl, h1, h2, h3⟩ := h
      exact vt_cmp hu65 (ih.p c _ _ h2) (ih.p c _ _ h3) h1
    · cases h
  | chain r1 r2 p q s =>
    simp only [cC] at h
    split at h
    · simp only [Bool.and_eq_true, decide_eq_true_eq, Bool.not_eq_true'] at h
      obtain ⟨rfl, rfl, h1, h2, h3, h4⟩ := h
      exact vt_chain hu65 (ih.e c _ _ h2) (ih.e c _ _ h3) (ih.e c _ _ h4) h1
    · cases h
theorem snd_cand (ih : Snd Φ n) {X : Cx} {b : Tb} (c : Cxt X Φ b) : ∀ e xs pos, cCAnd (n + 1) b e xs = true → PW X (.BoolOp .And xs pos) (tQ X.K (wpC Φ e)) := fun e xs pos h => by
  match xs, h with
  | [], h => simp [cCAnd] at h
  | [x], h => exact pw_and1 (ih.c c _ _ (by simpa only [cCAnd] using h))
  | x :: y :: ys, h =>
    cases e <;> first | (simp [cCAnd] at h; done) | skip
    simp only [cCAnd, Bool.and_eq_true] at h
    exact vw_and (ih.c c _ _ h.1) (ih.cand c _ _ _ h.2)
theorem snd_cor (ih : Snd Φ n) {X : Cx} {b : Tb} (c : Cxt X Φ b) : ∀ e xs pos, cCOr (n + 1) b e xs = true → PW X (.BoolOp .Or xs pos) (tQ X.K (wpC Φ e)) := fun e xs pos h => by
  match xs, h with
  | [], h => simp [cCOr] at h
  | [x], h => exact pw_or1 (ih.c c _ _ (by simpa only [cCOr] using h))
  | x :: y :: ys, h =>
    cases e <;> first | (simp [cCOr] at h; done) | skip
    simp only [cCOr, Bool.and_eq_true] at h
    exact vw_or (ih.c c _ _ h.1) (ih.cor c _ _ _ h.2)
theorem snd_oc (ih : Snd Φ n) {X : Cx} {b : Tb} (c : Cxt X Φ b) : ∀ e xs, cOc (n + 1) b e xs = true → PTs X xs (tQ X.K (wpOc Φ e)) := fun e xs h => by
  cases e with
  | no =>
    cases xs with
    | nil => exact vts_no
    | cons _ _ => simp [cOc] at h
  | so d =>
    simp only [cOc] at h
    split at h
    · exact vts_so (ih.c c _ _ h)
    · cases h
theorem snd_i (ih : Snd Φ n) {X : Cx} {b : Tb} (c : Cxt X Φ b) : ∀ e tg x, cI (n + 1) b e tg x = true → PI X tg x (tI X.K e (wpI Φ e)) := fun e tg x h => by
  have mg : ∀ x ∈ bltN, X.mg x = none := c.mg
  cases e with
  | seq p => exact vi_seq (ih.p c _ _ (by simpa only [cI] using h))
  | rng1 a =>
    simp only [cI] at h
    split at h
    · simp only [Bool.and_eq_true, decide_eq_true_eq] at h
      obtain ⟨rfl, h1, h2, h3⟩ := h
      exact vi_rng1 (c.gl h1) (mg _ (by decide)) (ih.e c _ _ h3) h2
    · cases h
  | rng2 a d =>
    simp only [cI] at h
    split at h
    · simp only [Bool.and_eq_true, decide_eq_true_eq] at h
      obtain ⟨rfl, h1, h2, h3, h4, h5⟩ := h
      exact vi_rng2 (c.gl h1) (mg _ (by decide)) (ih.e c _ _ h4) (ih.e c _ _ h5) ⟨h2, h3⟩
    · cases h
  | enum p =>
    simp only [cI] at h
    split at h
    · simp only [Bool.and_eq_true, decide_eq_true_eq] at h
      obtain ⟨rfl, h1, h2, h3⟩ := h
      exact vi_enum (c.gl h1) (mg _ (by decide)) (ih.p c _ _ h3) h2
    · cases h
  | zip2 p q =>
    simp only [cI] at h
    split at h
    · simp only [Bool.and_eq_true, decide_eq_true_eq] at h
      obtain ⟨rfl, h1, h2, h3, h4, h5⟩ := h
      exact vi_zip2 (c.gl h1) (mg _ (by decide)) (ih.p c _ _ h4) (ih.p c _ _ h5) ⟨h2, h3⟩
    · cases h
  | zip3 p q r =>
    simp only [cI] at h
    split at h
    · simp only [Bool.and_eq_true, decide_eq_true_eq] at h
      obtain ⟨h0, rfl, h1, h2, h3, h4, h5, h6, h7⟩ := h
      rcases Bool.or_eq_true_iff.mp h0 with h0 | h0
      · exact vi_zip3n h0 (c.gl h1) (mg _ (by decide)) (ih.p c _ _ h5) (ih.p c _ _ h6) (ih.p c _ _ h7) ⟨h2, h3, h4⟩
      · cases tg <;> first
          | exact vi_zip3 (c.gl h1) (mg _ (by decide)) (ih.p c _ _ h5) (ih.p c _ _ h6) (ih.p c _ _ h7) ⟨h2, h3, h4⟩
          | (simp [notTup] at h0)
    · cases h
theorem snd : ∀ n, Snd Φ n
  | 0 => ⟨fun _ _ _ h => by simp [cE] at h, fun _ _ _ _ h => by simp [cAnd] at h, fun _ _ _ _ h => by simp [cOr] at h, fun _ _ _ h => by simp [cEs] at h, fun _ _ _ h => by simp [cP] at h, fun _ _ _ h => by simp [cOe] at h, fun _ _ _ h => by simp [cC] at h,
    fun _ _ _ _ h => by simp [cCAnd] at h, fun _ _ _ _ h => by simp [cCOr] at h, fun _ _ _ h => by simp [cOc] at h, fun _ _ _ _ h => by simp [cI] at h⟩
  | n + 1 =>
    have ih := snd n
    ⟨fun c => snd_e ih c, fun c => snd_and ih c, fun c => snd_or ih c, fun c => snd_es ih c, fun c => snd_p ih c, fun c => snd_oe ih c, fun c => snd_c ih c, fun c => snd_cand ih c, fun c => snd_cor ih c, fun c => snd_oc ih c, fun c => snd_i ih c⟩
end
end PL

end
section
set_option maxHeartbeats 1000000
/-! PLu: statements that chk passes; a def by its VC. -/
namespace PL
open PySem PySem.Spec L2
open PyProof.Rows hiding St

theorem swaps_lc {elt : Expr} {gens : List Comprehension} {s : Scope} {vp p : Pos} {y : Str} {l : Nat} {env : PySem.Env} (hk : env.scope.kind = .function) (h1 : env.scope.names.lookup y = some .local) (h2 : p.line = vp.line) (h3 : anyComp s y = false) :
    swapsWith (.ListComp elt gens s vp) (some (.Name y p)) l env = pure true := by
  unfold swapsWith
  show (pure (env.blockKind == .function && env.kindOf y == some .local && p.line == vp.line && !(s.names.any fun (n, k) => n == y && (k == .local || k == .cell))) : Sem Bool) = pure true
  have e1 : env.blockKind = .function := by unfold PySem.Env.blockKind; rw [hk]; rfl
  have e2 : env.kindOf y = some .local := h1
  have e3 : (s.names.any fun (n, k) => n == y && (k == NameKind.local || k == NameKind.cell)) = false := h3
  rw [e1, e2, h2, e3]
  simp
structure SndS (Φ : Nat → Spec) (n : Nat) : Prop where
  s : ∀ {X : Cx} {b : Tb}, Cxt X Φ b → PassesOwn (model X.prog X.w) X.A X.env X.xe → ∀ s x, cS n b s x = true → PS X x (tS X.K b.io (wpS Φ s))
  ss : ∀ {X : Cx} {b : Tb}, Cxt X Φ b → PassesOwn (model X.prog X.w) X.A X.env X.xe → ∀ s x, cSs n b s x = true → PSs X x (tS X.K b.io (wpSs Φ s))
theorem all_io {is io : List Nat} (h : (is.all fun i => !decide (i ∈ io)) = true) : ∀ i ∈ is, i ∉ io := fun i hi m => by
  have := List.all_eq_true.mp h i hi
  simp [m] at this
section
variable {Φ : Nat → Spec} {n : Nat}
theorem snd_s (ih : SndS Φ n) {X : Cx} {b : Tb} (c : Cxt X Φ b) (hp : PassesOwn (model X.prog X.w) X.A X.env X.xe) : ∀ s x, cS (n + 1) b s x = true → PS X x (tS X.K b.io (wpS Φ s)) := fun s x h => by
  have hu1 : X.A.units + 1 < cLine := by have := c.hu; omega
  have se := snd (Φ := Φ) n
  cases s with
  | asg g e =>
    simp only [cS] at h
    split at h
    · rename_i tg v pos
      simp only [Bool.and_eq_true] at h
      obtain ⟨h1, h2, h3, h4⟩ := h
      have io := all_io h1
      split at h4
      · rename_i y p
        cases g with
        | tp gs => cases n <;> simp [cG] at h2
        | nm i =>
          have hn : b.put i y = true := by
            cases n with
            | zero => simp [cG] at h2
            | succ n => simpa only [cG] using h2
          obtain ⟨a1, a2, a3⟩ := c.nm hn
          have hio : i ∉ b.io := io i (by simp [gN])
          rcases Bool.or_eq_true_iff.mp h4 with h4 | h4
          · exact vs_nm (by rw [c.N]; exact c.nd) a1 a2 a3 (se.e c _ _ h3) (swaps_plain h4) hio
          · revert h3 h4
            cases e with
            | lc own it g' d e => ?_
            | _ => intro h3 h4; simp at h4
            cases v with
            | ListComp elt gens sc' vp => ?_
            | _ => intro h3 h4; simp at h4
            intro h3 h4
            simp only [Bool.and_eq_true, decide_eq_true_eq, Bool.not_eq_true'] at h4
            obtain ⟨h5, h6, h7⟩ := h4
            have hl : X.env.scope.names.lookup y = some .local := by
              rw [c.sc]
              split at h5
              · assumption
              · cases h5
            have sw := fun l => swaps_lc (elt := elt) (gens := gens) (l := l) (env := X.env) (by rw [c.sc]; exact c.kd) hl h6 h7
            cases n with
            | zero => simp [cE] at h3
            | succ n =>
              have sn := snd (Φ := Φ) n
              simp only [cE] at h3
              split at h3
              · rename_i heq
                cases heq
                simp only [Bool.and_eq_true, decide_eq_true_eq] at h3
                obtain ⟨rfl, g1, g2, g3, g4, g5, g6, g7⟩ := h3
                have ok := blkOk_by g2
                have ow : (ownP b.N own).map (·.2) = own := by unfold ownP; rw [List.map_map]; exact List.map_id own
                have r := fun spos => ps_lc (spos := spos) (i := i) (Φ := Φ) (g := g') (c := d) (e := e) (py := p) (pos := vp) c.calm (by rw [c.N]; exact c.nd) a1 hl (sw _) (sn.i c _ _ _ g4) (by rw [c.N, c.sc]; exact ok) (fun s H C cl fp => (sndG n).g (c.blk ok.kind s H C cl fp) _ _ g5) (fun s H C cl fp => sn.oc (c.blk ok.kind s H C cl fp) _ _ g6)
                  (fun s H C cl fp => sn.e (c.blk ok.kind s H C cl fp) _ _ g7) g1 (by rw [ow]; intro i hi; exact of_decide_eq_true (List.all_eq_true.mp g3 i hi))
                simp only [ow] at r
                exact vs_lc (r _) hio
              · cases h3
      · rename_i es k p
        cases g with
        | nm i => cases n <;> simp [cG] at h2
        | tp gs => exact vs_tp ((sndG n).g c _ _ h2) (se.e c _ _ h3) h4 io
      · cases h4
    · cases h
  | setIx i k e =>
    simp only [cS] at h
    split at h
    · simp only [Bool.and_eq_true] at h
      exact vs_setIx hu1 (c.var h.1) (se.e c _ _ h.2.2.1) (se.e c _ _ h.2.2.2) h.2.1
    · cases h
  | aug i o e =>
    simp only [cS] at h
    split at h
    · simp only [Bool.and_eq_true, decide_eq_true_eq, Bool.not_eq_true', decide_eq_false_iff_not] at h
      obtain ⟨rfl, h1, h2, h3⟩ := h
      obtain ⟨a1, a2, a3⟩ := c.nm h2
      exact vs_aug (by rw [c.N]; exact c.nd) a1 a2 a3 (se.e c _ _ h3) h1
    · cases h
  | app i e =>
    simp only [cS] at h
    split at h
    · simp only [Bool.and_eq_true, decide_eq_true_eq] at h
      obtain ⟨rfl, h1, h2, h3, h4⟩ := h
      exact vs_app (c.var h1) (se.e c _ _ h4) rfl h2 h3
    · cases h
  | ext i p =>
    simp only [cS] at h
    split at h
    · simp only [Bool.and_eq_true, decide_eq_true_eq] at h
      obtain ⟨rfl, h1, h2, h3, h4⟩ := h
      exact vs_ext (c.var h1) (se.p c _ _ h4) rfl h2 h3
    · cases h
  | ex e =>
    simp only [cS] at h
    split at h
    · simp only [Bool.and_eq_true] at h
      exact vs_ex (se.e c _ _ h.2) h.1
    · cases h
  | ret e =>
    simp only [cS] at h
    split at h
    · exact vs_ret (se.e c _ _ h)
    · cases h
  | retN =>
    simp only [cS] at h
    split at h
    · exact vs_retN
    · cases h
  | iff d a e =>
    simp only [cS] at h
    split at h
    · simp only [Bool.and_eq_true] at h
      exact vs_iff (se.c c _ _ h.1) (ih.ss c hp _ _ h.2.1) (ih.ss c hp _ _ h.2.2)
    · cases h
  | forr g it body =>
    simp only [cS] at h
    split at h
    · simp only [Bool.and_eq_true] at h
      exact vs_forr hp c.calm (se.i c _ _ _ h.2.2.1) ((sndG n).g c _ _ h.2.2.2.1) (ih.ss c hp _ _ h.2.2.2.2) h.2.1 (all_io h.1)
    · cases h
  | forB g i body =>
    simp only [cS] at h
    split at h
    · simp only [Bool.and_eq_true] at h
      have c2 : Cxt X Φ { b with io := i :: b.io } := ⟨c.N, c.sc, c.kd, c.calm, c.nd, c.st, c.hu, c.mg, c.fns⟩
      exact vs_forB hp c.calm (c.var h.2.1) ((sndG n).g c _ _ h.2.2.1) (ih.ss c2 hp _ _ h.2.2.2) rfl (all_io h.1)
    · cases h
  | whl d body =>
    simp only [cS] at h
    split at h
    · simp only [Bool.and_eq_true] at h
      exact vs_whl hp (se.c c _ _ h.1) (ih.ss c hp _ _ h.2)
    · cases h
  | brk =>
    simp only [cS] at h
    split at h
    · exact vs_brk
    · cases h
  | cnt =>
    simp only [cS] at h
    split at h
    · exact vs_cnt
    · cases h
  | pas =>
    simp only [cS] at h
    split at h
    · exact vs_pas
    · cases h
  | kill ks => simp [cS] at h
  | frz i => simp [cS] at h
theorem snd_ss (ih : SndS Φ n) {X : Cx} {b : Tb} (c : Cxt X Φ b) (hp : PassesOwn (model X.prog X.w) X.A X.env X.xe) : ∀ s x, cSs (n + 1) b s x = true → PSs X x (tS X.K b.io (wpSs Φ s)) := fun s x h => by
  cases s with
  | nil =>
    cases x with
    | nil => exact vss_nil
    | cons _ _ => simp [cSs] at h
  | cons s ss =>
    have one : (∀ x xs, cS n b s x = true → cSs n b ss xs = true → PSs X (x :: xs) (tS X.K b.io (wpSs Φ (.cons s ss)))) := fun x xs h1 h2 => vss_cons (ih.s c hp _ _ h1) (ih.ss c hp _ _ h2)
    cases s with
    | kill ks => exact vss_kill (ih.ss c hp _ _ (by simpa only [cSs] using h))
    | frz i => exact vss_frz (ih.ss c hp _ _ (by simpa only [cSs] using h))
    | _ =>
      cases x with
      | nil => simp [cSs] at h
      | cons x xs =>
        simp only [cSs, Bool.and_eq_true] at h
        exact one x xs h.1 h.2
theorem sndS : ∀ n, SndS Φ n
  | 0 => ⟨fun _ _ _ _ h => by simp [cS] at h, fun _ _ _ _ h => by simp [cSs] at h⟩
  | n + 1 =>
    have ih := sndS n
    ⟨fun c hp => snd_s ih c hp, fun c hp => snd_ss ih c hp⟩
end

/-! ### defs -/
/-- the places of the lent parameters -/
def ioIx (m : List Bool) : List Nat := (List.range m.length).filter fun i => m.getD i false
/-- what is wanted of the in-and-out parameters at the end -/
def ioK (m : List Bool) (Q : List T → Prop) (Γ : Env) : Prop := match m.any id with
  | false => Q []
  | true => ∃ ios, lnt m Γ = ios.map some ∧ m.length ≤ Γ.length ∧ Q ios
/-- the entry of a def -/
def ent (n : Nat) (ts : List T) : Env := ts.map some ++ List.replicate (n - ts.length) none
/-- a def keeps its promise, by its VC -/
structure FnIn (P : Program) (w : World) (K : PySem.W.Frag) (mg : Str → Option Value) (base : Heap) (k : Nat) (x : Str) (m : List Bool) (φ : Spec) : Prop where
  ex : ∃ (f : Addr) (fd : FuncData) (ps : List Str), FnOk P w K mg base CX0 k f fd ps (spT K m φ) ∧ mg x = some (.ref f) ∧ PySem.W.keepIn K (.ref f) = true ∧ Binds K fd ps []
theorem FnIn.mono {P : Program} {w : World} {K : PySem.W.Frag} {mg : Str → Option Value} {base : Heap} {j k : Nat} {x : Str} {m : List Bool} {φ : Spec} (F : FnIn P w K mg base j x m φ) (h : j ≤ k) : FnIn P w K mg base k x m φ := by
  obtain ⟨f, fd, ps, a, b, c, d⟩ := F.ex
  exact ⟨f, fd, ps, a.mono h, b, c, d⟩
/-- all defs below n -/
def AllF (P : Program) (w : World) (K : PySem.W.Frag) (mg : Str → Option Value) (base : Heap) (fs : List (Str × List Bool)) (Φ : Nat → Spec) (n : Nat) : Prop := ∀ i x m, i < n → fs[i]? = some (x, m) → FnIn P w K mg base n x m (Φ i)
theorem AllF.zero {P : Program} {w : World} {K : PySem.W.Frag} {mg : Str → Option Value} {base : Heap} {fs : List (Str × List Bool)} {Φ : Nat → Spec} : AllF P w K mg base fs Φ 0 := fun i x m h => by omega
theorem AllF.succ {P : Program} {w : World} {K : PySem.W.Frag} {mg : Str → Option Value} {base : Heap} {fs : List (Str × List Bool)} {Φ : Nat → Spec} {n : Nat} {x : Str} {m : List Bool} (a : AllF P w K mg base fs Φ n) (e : fs[n]? = some (x, m)) (F : FnIn P w K mg base (n + 1) x m (Φ n)) : AllF P w K mg base fs Φ (n + 1) := fun i y m' h h' => by
  by_cases hn : i = n
  · subst hn
    rw [e] at h'
    cases h'
    exact F
  · exact (a i y m' (by omega) h').mono (by omega)
section
variable {P : Program} {w : World} {K : PySem.W.Frag} {mg : Str → Option Value} {base : Heap}
theorem start_get {N : List Str} {vs : List V} {i : Nat} {v : V} (h : vs[i]? = some v) : (start N vs)[i]? = some (some v) := by
  unfold L2.start
  have hi : i < vs.length := (List.getElem?_eq_some_iff.mp h).1
  rw [List.getElem?_append_left (by simpa using hi), List.getElem?_map, h]
  rfl
theorem repsO_get {H : Hp} {Z : Addr → Prop} : ∀ {ts : List T} {Oss : List (List Addr)} {vs : List V} {i : Nat} {t : T}, RepsO K H Z ts Oss vs → ts[i]? = some t → ∃ v, vs[i]? = some v ∧ Rep K H Z t (Oss.getD i []) v
  | [], _, _, i, t, _, e => by simp at e
  | t :: ts, o :: os, v :: vs, 0, t', h, e => by
    simp at e; subst e
    exact ⟨v, rfl, h.1⟩
  | t :: ts, o :: os, v :: vs, i + 1, t', h, e => by
    obtain ⟨w, h1, h2⟩ := repsO_get (i := i) h.2 (by simpa using e)
    exact ⟨w, by simpa using h1, by simpa using h2⟩
  | _ :: _, [], _, _, _, h, _ => by cases h
  | _ :: _, _ :: _, [], _, _, h, _ => by cases h
theorem ent_ok {H : Hp} {Z : Addr → Prop} {ts : List T} {Oss : List (List Addr)} {vs : List V} {N : List Str} (r : RepsO K H Z ts Oss vs) (own : Own H Z Oss.flatten) (zt : Zt H Z) (hl : vs.length ≤ N.length) :
    Ok K H Z (ent N.length ts) (Oss ++ List.replicate (N.length - vs.length) []) (start N vs) := by
  obtain ⟨l1, l2⟩ := r.len
  have fl : (Oss ++ List.replicate (N.length - vs.length) ([] : List Addr)).flatten = Oss.flatten := by simp
  refine ⟨?_, ?_, fun i t h => ?_, by rw [fl]; exact own, zt⟩
  · unfold L2.start ent
    simp only [List.length_append, List.length_map, List.length_replicate]
    omega
  · unfold ent
    simp only [List.length_append, List.length_map, List.length_replicate]
    omega
  · unfold ent at h
    by_cases hi : i < ts.length
    · rw [List.getElem?_append_left (by simpa using hi), List.getElem?_map] at h
      cases e : ts[i]? with
      | none => rw [e] at h; cases h
      | some t' =>
        rw [e] at h
        cases h
        obtain ⟨v, h1, h2⟩ := repsO_get r e
        refine ⟨v, start_get h1, ?_⟩
        rw [List.getD_eq_getElem?_getD, List.getElem?_append_left (by rw [l2, ← l1]; exact hi), ← List.getD_eq_getElem?_getD]
        exact h2
    · rw [List.getElem?_append_right (by simpa using hi)] at h
      rw [List.getElem?_replicate] at h
      split at h <;> cases h
/-- the lent ones at the end -/
theorem lnt_end {H : Hp} {Z : Addr → Prop} : ∀ (m : List Bool) (j : Nat) {vs : List V} {Γ : Env} {Os : List (List Addr)} {ios : List T} {σ : L2.St}, vs.length = m.length → (∀ i t, Γ[i]? = some (some t) → ∃ v, σ[j + i]? = some (some v) ∧ Rep K H Z t (Os.getD i []) v) → Os.length = Γ.length →
    (∀ i v, m.getD i false = true → vs[i]? = some v → σ[j + i]? = some (some v)) → lnt m Γ = ios.map some → m.length ≤ Γ.length → RepsO K H Z ios (lnt m Os) (lnt m vs) ∧ (lnt m Os).flatten.Sublist Os.flatten
  | [], j, vs, Γ, Os, ios, σ, hl, g, ho, hs, e, hle => by
    have : ios = [] := by simpa [lnt] using e
    subst this
    have hv : vs = [] := List.length_eq_zero_iff.mp hl
    subst hv
    exact ⟨by simp [lnt, RepsO], by simp [lnt]⟩
  | b :: m, j, [], Γ, Os, ios, σ, hl, g, ho, hs, e, hle => by simp at hl
  | b :: m, j, v :: vs, [], Os, ios, σ, hl, g, ho, hs, e, hle => by simp at hle
  | b :: m, j, v :: vs, x :: Γ, [], ios, σ, hl, g, ho, hs, e, hle => by simp at ho
  | b :: m, j, v :: vs, x :: Γ, o :: Os, ios, σ, hl, g, ho, hs, e, hle => by
    have g' : ∀ i t, Γ[i]? = some (some t) → ∃ v, σ[j + 1 + i]? = some (some v) ∧ Rep K H Z t (Os.getD i []) v := fun i t q => by
      have := g (i + 1) t (by simpa using q)
      rw [show j + (i + 1) = j + 1 + i by omega] at this
      simpa using this
    have hs' : ∀ i v, m.getD i false = true → vs[i]? = some v → σ[j + 1 + i]? = some (some v) := fun i v' q q' => by
      have := hs (i + 1) v' (by simpa using q) (by simpa using q')
      rw [show j + (i + 1) = j + 1 + i by omega] at this
      exact this
    cases b with
    | false =>
      obtain ⟨h1, h2⟩ := lnt_end m (j + 1) (vs := vs) (Γ := Γ) (Os := Os) (ios := ios) (σ := σ) (by simpa using hl) g' (by simpa using ho) hs' (by simpa [lnt] using e) (by simpa using hle)
      exact ⟨by simpa [lnt] using h1, by simp only [lnt, List.flatten_cons]; exact h2.trans (List.sublist_append_right _ _)⟩
    | true =>
      cases ios with
      | nil => simp [lnt] at e
      | cons t ios =>
        simp only [lnt, List.map_cons, List.cons.injEq] at e
        obtain ⟨rfl, e⟩ := e
        obtain ⟨h1, h2⟩ := lnt_end m (j + 1) (vs := vs) (Γ := Γ) (Os := Os) (ios := ios) (σ := σ) (by simpa using hl) g' (by simpa using ho) hs' e (by simpa using hle)
        obtain ⟨v', e1, e2⟩ := g 0 t rfl
        have e3 := hs 0 v rfl rfl
        rw [e1] at e3
        cases e3
        refine ⟨?_, ?_⟩
        · simp only [lnt, RepsO]
          exact ⟨by simpa using e2, h1⟩
        · simp only [lnt, List.flatten_cons]
          exact h2.append_left o
theorem ioIx_mem {m : List Bool} {i : Nat} (h : m.getD i false = true) : i ∈ ioIx m := by
  unfold ioIx
  rw [List.mem_filter]
  refine ⟨?_, h⟩
  rw [List.mem_range]
  by_cases hi : i < m.length
  · exact hi
  · rw [List.getD_eq_getElem?_getD, List.getElem?_eq_none (by omega)] at h
    cases h
theorem lnt_none {α : Type} : ∀ {m : List Bool} {xs : List α}, m.any id = false → lnt m xs = []
  | [], xs, _ => by cases xs <;> rfl
  | b :: m, [], h => by cases b <;> rfl
  | b :: m, x :: xs, h => by
    simp only [List.any_cons, Bool.or_eq_false_iff] at h
    have : b = false := h.1
    subst this
    simp only [lnt]
    exact lnt_none h.2
theorem def_ok {k : Nat} {x qual : Str} {params : Arguments} {body : List Stmt} {scope : Scope} {f : Addr} {fd : FuncData} {N ps : List Str} {m : List Bool} {fs : List (Str × List Bool)} {Φ : Nat → Spec} {φ : Spec} {il : Ss} (n fuel : Nat)
    (F : FunD K x qual params body scope [] [] f fd) (S : FnScope N ps scope) (hm : m.length = ps.length) (all : AllF P w K mg base fs Φ k) (hfs : n ≤ k) (mgN : ∀ x ∈ bltN, mg x = none)
    (ck : cSs fuel ⟨N, scope, scope, fs.take n, ioIx m⟩ il body = true)
    (vc : ∀ ts Q, ts.length = m.length → argsM m ts = true → φ ts Q → wpSs Φ il { nx := fun Γ => ioK m (Q .non) Γ, rt := fun t Γ => ioK m (Q t) Γ } (ent N.length ts)) :
    FnOk P w K mg base CX0 (k + 1) f fd ps (spT K m φ) := by
  refine F.ok S (fun vs H Q E h => by rw [h.1, hm]) fun cdv A outer s H vs Q E hr h => ?_
  obtain ⟨hl, ts, Oss, Z, Qt, r, am, own, zt, hφ, fin⟩ := h
  obtain ⟨l1, l2⟩ := r.len
  have hpl : ps.length ≤ N.length := by have := congrArg List.length S.pre; rw [List.length_take] at this; omega
  have okE := ent_ok (N := N) r own zt (by omega)
  have C : Cxt (cxOf CX0 P w K mg base N qual scope f cdv A outer s H E).nox Φ ⟨N, scope, scope, fs.take n, ioIx m⟩ := by
    refine ⟨rfl, rfl, S.kind, rfl, S.nd, fun x h => ⟨locK_or h, .inl rfl⟩, ?_, mgN, fun i y m' h => ?_⟩
    · have := hr.un
      show (A.deeper (envOfC qual scope s.heap.objs.size f cdv)).units + 80 < cLine
      omega
    · have hi : i < n := by
        by_cases hi : i < n
        · exact hi
        · rw [List.getElem?_take_eq_none (by omega)] at h; cases h
      rw [List.getElem?_take_of_lt hi] at h
      obtain ⟨f', fd', ps', a, b, c, d⟩ := (all i y m' (by omega) h).ex
      exact ⟨k, f', fd', ps', a, hr, b, c, d⟩
  refine ⟨_, PSs.nox ((sndS fuel).ss C PassesOwn.never il body ck), ?_⟩
  refine ⟨_, Z, _, _, okE, vc ts Qt (by rw [l1, hl]) am hφ, ?_⟩
  have flat : (Oss ++ List.replicate (N.length - vs.length) ([] : List Addr)).flatten = Oss.flatten := by simp
  rw [flat]
  have key : ∀ t Γ' σ' v H' Z' Os' os, ioK m (Qt t) Γ' → Ok K H' Z' Γ' Os' σ' → Rep K H' Z' t os v → Own H' Z' (os ++ Os'.flatten) → Ext Oss.flatten H Z H' Z' (os ++ Os'.flatten) → Par (ioIx m) (start N vs) σ' → Q v H' := fun t Γ' σ' v H' Z' Os' os q ok' rv ow ex pr => by
    unfold ioK at q
    cases hb : m.any id with
    | false =>
      rw [hb] at q
      refine fin t [] v H' Z' os [] q rv ?_ (by simpa using ow.left) (by simpa using ex.sub fun a h => List.mem_append_left _ h) ok'.zt
      rw [lnt_none hb]
      simp [RepsO]
    | true =>
      rw [hb] at q
      obtain ⟨ios, e, hle, q⟩ := q
      obtain ⟨h1, h2⟩ := lnt_end (K := K) (H := H') (Z := Z') m 0 (vs := vs) (Γ := Γ') (Os := Os') (ios := ios) (σ := σ') hl (fun i t' g => by
        obtain ⟨v', g1, g2⟩ := ok'.get i t' g
        exact ⟨v', by simpa using g1, g2⟩) ok'.lo (fun i v' g g2 => by
        have := pr i (ioIx_mem g)
        rw [Nat.zero_add, this]
        exact start_get g2) e hle
      refine fin t ios v H' Z' os (lnt m Os') q rv h1 ?_ ?_ ok'.zt
      · exact ow.sublist (h2.append_left os)
      · exact ex.sub fun a h => by
          rcases List.mem_append.mp h with z | z
          · exact List.mem_append_left _ z
          · exact List.mem_append_right _ (h2.subset z)
  refine ⟨fun Γ' σ' H' Z' Os' q ok' ex pr => key .non Γ' σ' .non H' Z' Os' [] q ok' rep_non (by simpa using ok'.own) (by simpa using ex) pr, fun t Γ' σ' v H' Z' Os' os q ok' rv ow ex pr => key t Γ' σ' v H' Z' Os' os q ok' rv ow ex pr, fun Γ' σ' H' Z' Os' q => q.elim, fun Γ' σ' H' Z' Os' q => q.elim⟩
end
end PL

end
section
set_option maxHeartbeats 1000000
/-! PLw: one lemma a construct, for the proof of what a def is asked for. -/
namespace PL
open PySem (Str sizeLine)

/-! ### what stands behind a step -/
def kLen (xs : List T) (K : Prop) : Prop := xs.length ≤ sizeLine ∧ K
def kBl (x : T) (K : Bool → Prop) : Prop := ∃ c, x = .bl c ∧ K c
def kInt (x : T) (K : Int → Prop) : Prop := ∃ c, x = .int c ∧ K c
def kTru (x : T) (K : Bool → Prop) : Prop := ∃ c, tru x = some c ∧ K c
def kLook (p : P) (x : T) (Γ : Env) (K : T → Prop) : Prop := ∃ x', look p x Γ x' ∧ K x'
def kIdx (x y : T) (K : T → Prop) : Prop := ∃ v, idxT x y = some v ∧ isF v = true ∧ K v
def kItems (x : T) (K : List T → Prop) : Prop := ∃ xs, items x = some xs ∧ isFs xs = true ∧ K xs
def kBind (g : G) (t : T) (Γ : Env) (K : Env → Prop) : Prop := ∃ Γ2, bindG g t Γ = some Γ2 ∧ K Γ2
def kIf (c : Bool) (A B : Prop) : Prop := if c = true then A else B
theorem k_len {xs : List T} {K : Prop} (h : xs.length ≤ sizeLine) (k : K) : kLen xs K := ⟨h, k⟩
theorem k_bl {c : Bool} {K : Bool → Prop} (k : K c) : kBl (.bl c) K := ⟨c, rfl, k⟩
theorem k_int {c : Int} {K : Int → Prop} (k : K c) : kInt (.int c) K := ⟨c, rfl, k⟩
theorem k_tru {x : T} {c : Bool} {K : Bool → Prop} (h : tru x = some c) (k : K c) : kTru x K := ⟨c, h, k⟩
theorem k_lookT {e : E} {x : T} {Γ : Env} {K : T → Prop} (k : K x) : kLook (.tmp e) x Γ K := ⟨x, rfl, k⟩
theorem k_lookV {i : Nat} {x t : T} {Γ : Env} {K : T → Prop} (h : Γ[i]? = some (some t)) (k : K t) : kLook (.var i) x Γ K := ⟨t, h, k⟩
theorem k_idx {x y v : T} {K : T → Prop} (h : idxT x y = some v) (f : isF v = true) (k : K v) : kIdx x y K := ⟨v, h, f, k⟩
theorem k_items {x : T} {xs : List T} {K : List T → Prop} (h : items x = some xs) (f : isFs xs = true) (k : K xs) : kItems x K := ⟨xs, h, f, k⟩
theorem k_bind {g : G} {t : T} {Γ Γ2 : Env} {K : Env → Prop} (h : bindG g t Γ = some Γ2) (k : K Γ2) : kBind g t Γ K := ⟨Γ2, h, k⟩
theorem k_if {c : Bool} {A B : Prop} (h1 : c = true → A) (h2 : c = false → B) : kIf c A B := by
  unfold kIf
  cases c with
  | true => exact h1 rfl
  | false => exact h2 rfl
theorem k_ifT {A B : Prop} (k : A) : kIf true A B := k
theorem k_ifF {A B : Prop} (k : B) : kIf false A B := k

section
variable {Φ : Nat → Spec} {Γ : Env} {Q : T → Env → Prop}
/-! ### expressions -/
theorem w_non (k : Q .non Γ) : wpE Φ .non Γ Q := by simp only [wpE]; exact k
theorem w_bl {b : Bool} (k : Q (.bl b) Γ) : wpE Φ (.bl b) Γ Q := by simp only [wpE]; exact k
theorem w_int {i : Int} (k : Q (.int i) Γ) : wpE Φ (.int i) Γ Q := by simp only [wpE]; exact k
theorem w_str {x : Str} (k : Q (.str x) Γ) : wpE Φ (.str x) Γ Q := by simp only [wpE]; exact k
theorem w_cp {i : Nat} {t : T} (h : Γ[i]? = some (some t)) (f : isF t = true) (k : Q t Γ) : wpE Φ (.cp i) Γ Q := by simp only [wpE]; exact ⟨t, h, f, k⟩
theorem w_take {i : Nat} {t : T} (h : Γ[i]? = some (some t)) (k : Q t (Γ.set i none)) : wpE Φ (.take i) Γ Q := by simp only [wpE]; exact ⟨t, h, k⟩
theorem w_fz {e : E} (k : wpE Φ e Γ fun t Γ' => Q (fz t) Γ') : wpE Φ (.fz e) Γ Q := by simp only [wpE]; exact k
theorem w_tup {es : Es} (k : wpEs Φ es Γ fun ts Γ' => kLen ts (Q (.tup ts) Γ')) : wpE Φ (.tup es) Γ Q := by simp only [wpE]; exact k
theorem w_lst {es : Es} (k : wpEs Φ es Γ fun ts Γ' => kLen ts (Q (.lst true ts) Γ')) : wpE Φ (.lst es) Γ Q := by simp only [wpE]; exact k
theorem w_dic0 (k : Q (.dic true [] []) Γ) : wpE Φ .dic0 Γ Q := by simp only [wpE]; exact k
theorem w_op {o : Op} {a b : E} (k : wpE Φ a Γ fun x Γ1 => wpE Φ b Γ1 fun y Γ2 => opP o x y fun z => Q z Γ2) : wpE Φ (.op o a b) Γ Q := by simp only [wpE]; exact k
theorem w_neg {a : E} (k : wpE Φ a Γ fun x Γ1 => kInt x fun i => Q (.int (-i)) Γ1) : wpE Φ (.neg a) Γ Q := by simp only [wpE]; exact k
theorem w_and {a b : E} (k : wpE Φ a Γ fun x Γ1 => kBl x fun c => kIf c (wpE Φ b Γ1 Q) (Q (.bl false) Γ1)) : wpE Φ (.and a b) Γ Q := by simp only [wpE]; exact k
theorem w_or {a b : E} (k : wpE Φ a Γ fun x Γ1 => kBl x fun c => kIf c (Q (.bl true) Γ1) (wpE Φ b Γ1 Q)) : wpE Φ (.or a b) Γ Q := by simp only [wpE]; exact k
theorem w_nott {p : P} (k : wpP Φ p Γ fun x Γ1 => kTru x fun c => Q (.bl (!c)) Γ1) : wpE Φ (.nott p) Γ Q := by simp only [wpE]; exact k
theorem w_cmp {r : Rl} {a b : P} (k : wpP Φ a Γ fun x Γ1 => wpP Φ b Γ1 fun y Γ2 => kLook a x Γ2 fun x' => rlP r x' y fun c => Q (.bl c) Γ2) : wpE Φ (.cmp r a b) Γ Q := by simp only [wpE]; exact k
theorem w_chain {r1 r2 : Rl} {a b c : E} (k : wpE Φ a Γ fun x Γ1 => wpE Φ b Γ1 fun y Γ2 => isF y = true ∧ rlP r1 x y fun c1 => kIf c1 (wpE Φ c Γ2 fun z Γ3 => rlP r2 y z fun c2 => Q (.bl c2) Γ3) (Q (.bl false) Γ2)) : wpE Φ (.chain r1 r2 a b c) Γ Q := by
  simp only [wpE]; exact k
theorem w_ifx {c : C} {a b : E} (k : wpC Φ c Γ fun d Γ1 => kIf d (wpE Φ a Γ1 Q) (wpE Φ b Γ1 Q)) : wpE Φ (.ifx c a b) Γ Q := by simp only [wpE]; exact k
theorem w_idx {p : P} {i : E} (k : wpP Φ p Γ fun x Γ1 => wpE Φ i Γ1 fun y Γ2 => kLook p x Γ2 fun x' => kIdx x' y fun v => Q v Γ2) : wpE Φ (.idx p i) Γ Q := by simp only [wpE]; exact k
theorem w_sl {p : P} {lo hi : Oe} (k : wpP Φ p Γ fun x Γ1 => wpOe Φ lo Γ1 fun l Γ2 => wpOe Φ hi Γ2 fun h Γ3 => kLook p x Γ3 fun x' => slP x' l h fun v => Q v Γ3) : wpE Φ (.sl p lo hi) Γ Q := by simp only [wpE]; exact k
/-- a def with no lent parameters -/
def spF (P : List T → (T → Prop) → Prop) : Spec := fun ts Q => P ts fun v => Q v []
def kArgs (es : Es) (ts : List T) (K : Prop) : Prop := argsF es ts = true ∧ K
theorem k_args {es : Es} {ts : List T} {K : Prop} (h : argsF es ts = true) (k : K) : kArgs es ts K := ⟨h, k⟩
theorem w_call {f : Nat} {es : Es} {P : List T → (T → Prop) → Prop} (hf : Φ f = spF P) (hl : lends es = []) (k : wpEs Φ es Γ fun ts Γ1 => kArgs es ts (P ts fun v => Q v Γ1)) : wpE Φ (.call f es) Γ Q := by
  simp only [wpE, hf, hl, spF, List.length_nil, lentBack, true_and]
  exact k
theorem w_bi {b : Bi} {p : P} (k : wpP Φ p Γ fun x Γ1 => biP b x fun v => Q v Γ1) : wpE Φ (.bi b p) Γ Q := by simp only [wpE]; exact k
theorem w_mm {mx : Bool} {a b : E} (k : wpE Φ a Γ fun x Γ1 => wpE Φ b Γ1 fun y Γ2 => mmP mx x y fun v => Q v Γ2) : wpE Φ (.mm mx a b) Γ Q := by simp only [wpE]; exact k
theorem w_isi {p : P} {ty : Ty} (k : wpP Φ p Γ fun x Γ1 => Q (.bl (isTy ty x)) Γ1) : wpE Φ (.isi p ty) Γ Q := by simp only [wpE]; exact k
/-- a comprehension whose turns change nothing else: f tells what each gives -/
theorem lc_loop {own : List Nat} {step : T → Env → (Option T → Env → Prop) → Prop} {xs : List T} {Γ0 : Env} (f : T → Option T) (K : List T → Env → Prop)
    (hs : ∀ x ∈ xs, ∀ (Kk : Option T → Env → Prop), (∀ Γ', wipeE own Γ' = wipeE own Γ0 → Kk (f x) Γ') → step x (wipeE own Γ0) Kk) : ∀ (Γ : Env) (acc : List T), wipeE own Γ = wipeE own Γ0 → (∀ Γ', wipeE own Γ' = wipeE own Γ0 → K (acc ++ xs.filterMap f) Γ') → lcLoop own step xs Γ acc K := by
  induction xs with
  | nil =>
    intro Γ acc e k
    simp only [lcLoop]
    simpa using k Γ e
  | cons x xs ih =>
    intro Γ acc e k
    simp only [lcLoop]
    rw [e]
    refine hs x List.mem_cons_self _ fun Γ' e' => ?_
    refine ih (fun y hy => hs y (List.mem_cons_of_mem _ hy)) (wipeE own Γ') _ (by rw [wipeE_twice, e']) fun Γ2 e2 => ?_
    have := k Γ2 e2
    cases h : f x <;> simpa [List.filterMap_cons, h] using this
theorem backE_eq {own : List Nat} {Γ0 Γ Γ' : Env} (h : wipeE own Γ = wipeE own Γ') : backE own Γ0 Γ = backE own Γ0 Γ' := by
  have len : Γ.length = Γ'.length := by rw [← wipeE_len own Γ, ← wipeE_len own Γ', h]
  apply List.ext_getElem?
  intro i
  by_cases m : i ∈ own
  · have key : ∀ (own : List Nat), i ∈ own → (backE own Γ0 Γ)[i]? = (backE own Γ0 Γ')[i]? := by
      intro own
      induction own with
      | nil => intro h; cases h
      | cons v vs ih =>
        intro hm
        unfold backE
        by_cases hv : v = i
        · subst hv
          by_cases hl : v < Γ.length
          · rw [List.getElem?_set_self (by rw [backE_len]; exact hl), List.getElem?_set_self (by rw [backE_len, ← len]; exact hl)]
          · rw [List.getElem?_eq_none (by rw [List.length_set, backE_len]; omega), List.getElem?_eq_none (by rw [List.length_set, backE_len, ← len]; omega)]
        · rw [List.getElem?_set_ne hv, List.getElem?_set_ne hv]
          rcases List.mem_cons.mp hm with z | z
          · exact absurd z.symm hv
          · exact ih z
    exact key own m
  · rw [backE_out m, backE_out m, ← wipeE_out m, h, wipeE_out m]
def kCap (it : I) (xs : List T) (K : Prop) : Prop := lcCap it xs ∧ K
theorem k_cap {it : I} {xs : List T} {K : Prop} (h : lcCap it xs) (k : K) : kCap it xs K := ⟨h, k⟩
/-- one turn of a comprehension -/
def kTurn (Φ : Nat → Spec) (g : G) (c : Oc) (e : E) (x : T) (Γ : Env) (K : Option T → Env → Prop) : Prop := kBind g x Γ fun Γ2 => wpOc Φ c Γ2 fun b Γ3 => kIf b (wpE Φ e Γ3 fun y Γ4 => isF y = true ∧ K (some y) Γ4) (K none Γ3)
def kLc (Φ : Nat → Spec) (own : List Nat) (g : G) (c : Oc) (e : E) (xs : List T) (Γ : Env) (Q : T → Env → Prop) : Prop := lcLoop own (kTurn Φ g c e) xs Γ [] fun ys Γ' => Q (.lst true ys) (backE own Γ Γ')
theorem w_lc {own : List Nat} {it : I} {g : G} {c : Oc} {e : E} (k : wpI Φ it Γ fun xs Γ1 => kCap it xs (kLc Φ own g c e xs Γ1 Q)) : wpE Φ (.lc own it g c e) Γ Q := by simp only [wpE]; exact k
theorem k_lc {own : List Nat} {g : G} {c : Oc} {e : E} {xs : List T} (f : T → Option T) (hs : ∀ x ∈ xs, ∀ (Kk : Option T → Env → Prop), (∀ Γ', wipeE own Γ' = wipeE own Γ → Kk (f x) Γ') → kTurn Φ g c e x (wipeE own Γ) Kk) (k : Q (.lst true (xs.filterMap f)) (backE own Γ Γ)) : kLc Φ own g c e xs Γ Q := by
  refine lc_loop f _ hs Γ [] rfl fun Γ' e' => ?_
  rw [backE_eq e']
  exact k
/-- .. each gives one -/
theorem k_lcM {own : List Nat} {g : G} {c : Oc} {e : E} {xs : List T} (f : T → T) (hs : ∀ x ∈ xs, ∀ (Kk : Option T → Env → Prop), (∀ Γ', wipeE own Γ' = wipeE own Γ → Kk (some (f x)) Γ') → kTurn Φ g c e x (wipeE own Γ) Kk) (k : Q (.lst true (xs.map f)) (backE own Γ Γ)) : kLc Φ own g c e xs Γ Q := by
  refine k_lc (fun x => some (f x)) hs ?_
  rw [show (fun x => some (f x)) = some ∘ f from rfl, List.filterMap_eq_map]
  exact k
theorem w_pop {i : Nat} {xs : List T} {y : T} (h : Γ[i]? = some (some (.lst true xs))) (l : xs.getLast? = some y) (f : isFs xs = true) (k : Q y (Γ.set i (some (.lst true xs.dropLast)))) : wpE Φ (.pop i) Γ Q := by simp only [wpE]; exact ⟨xs, y, h, l, f, k⟩
theorem w_index {p : P} {k : E} (h : wpP Φ p Γ fun x Γ1 => isLst x = true ∧ wpE Φ k Γ1 fun y Γ2 => kLook p x Γ2 fun x' => ∃ o xs j, x' = .lst o xs ∧ shp (.lst o xs) = true ∧ shp y = true ∧ keyIx y xs = some j ∧ Q (.int (j : Nat)) Γ2) : wpE Φ (.index p k) Γ Q := by simp only [wpE]; exact h
theorem w_lrg {a b : E} (k : wpE Φ a Γ fun x Γ1 => wpE Φ b Γ1 fun y Γ2 => ∃ m n, x = .int m ∧ y = .int n ∧ L2.RgOk m n ∧ Q (.lst true ((List.range (n - m).toNat).map fun (k : Nat) => .int (m + k))) Γ2) : wpE Φ (.lrg a b) Γ Q := by simp only [wpE]; exact k
/-! ### lists of arguments, operands -/
variable {Qs : List T → Env → Prop} {Qb : Bool → Env → Prop} {Qo : Option Int → Env → Prop} {R : List T → Env → Prop}
theorem w_nil (k : Qs [] Γ) : wpEs Φ .nil Γ Qs := by simp only [wpEs]; exact k
theorem w_cons {e : E} {es : Es} (k : wpE Φ e Γ fun x Γ1 => wpEs Φ es Γ1 fun xs Γ2 => Qs (x :: xs) Γ2) : wpEs Φ (.cons e es) Γ Qs := by simp only [wpEs]; exact k
theorem w_var {i : Nat} {t : T} (h : Γ[i]? = some (some t)) (k : Q t Γ) : wpP Φ (.var i) Γ Q := by simp only [wpP]; exact ⟨t, h, k⟩
theorem w_tmp {e : E} (k : wpE Φ e Γ Q) : wpP Φ (.tmp e) Γ Q := by simp only [wpP]; exact k
theorem w_no (k : Qo none Γ) : wpOe Φ .no Γ Qo := by simp only [wpOe]; exact k
theorem w_so {e : E} (k : wpE Φ e Γ fun x Γ1 => kInt x fun i => Qo (some i) Γ1) : wpOe Φ (.so e) Γ Qo := by simp only [wpOe]; exact k
/-! ### tests -/
theorem c_val {p : P} (k : wpP Φ p Γ fun x Γ1 => kTru x fun c => Qb c Γ1) : wpC Φ (.val p) Γ Qb := by simp only [wpC]; exact k
theorem c_and {a b : C} (k : wpC Φ a Γ fun c Γ1 => kIf c (wpC Φ b Γ1 Qb) (Qb false Γ1)) : wpC Φ (.and a b) Γ Qb := by simp only [wpC]; exact k
theorem c_or {a b : C} (k : wpC Φ a Γ fun c Γ1 => kIf c (Qb true Γ1) (wpC Φ b Γ1 Qb)) : wpC Φ (.or a b) Γ Qb := by simp only [wpC]; exact k
theorem c_not {a : C} (k : wpC Φ a Γ fun c Γ1 => Qb (!c) Γ1) : wpC Φ (.not a) Γ Qb := by simp only [wpC]; exact k
theorem c_cmp {r : Rl} {a b : P} (k : wpP Φ a Γ fun x Γ1 => wpP Φ b Γ1 fun y Γ2 => kLook a x Γ2 fun x' => rlP r x' y fun c => Qb c Γ2) : wpC Φ (.cmp r a b) Γ Qb := by simp only [wpC]; exact k
theorem c_chain {r1 r2 : Rl} {a b c : E} (k : wpE Φ a Γ fun x Γ1 => wpE Φ b Γ1 fun y Γ2 => isF y = true ∧ rlP r1 x y fun c1 => kIf c1 (wpE Φ c Γ2 fun z Γ3 => rlP r2 y z fun c2 => Qb c2 Γ3) (Qb false Γ2)) : wpC Φ (.chain r1 r2 a b c) Γ Qb := by
  simp only [wpC]; exact k
theorem oc_no (k : Qb true Γ) : wpOc Φ .no Γ Qb := by simp only [wpOc]; exact k
theorem oc_so {c : C} (k : wpC Φ c Γ Qb) : wpOc Φ (.so c) Γ Qb := by simp only [wpOc]; exact k
/-! ### what is gone through -/
def kHold (p : P) (x : T) (Γ : Env) (R : List T → Env → Prop) : Prop := kItems x fun xs => R xs (holdE p x Γ)
theorem i_seq {p : P} (k : wpP Φ p Γ fun x Γ1 => kHold p x Γ1 R) : wpI Φ (.seq p) Γ R := by simp only [wpI]; exact k
theorem i_rng1 {a : E} (k : wpE Φ a Γ fun x Γ1 => kInt x fun n => -(2 ^ 62) ≤ n ∧ n < 2 ^ 62 ∧ R ((List.range n.toNat).map fun (k : Nat) => .int k) Γ1) : wpI Φ (.rng1 a) Γ R := by simp only [wpI]; exact k
theorem i_rng2 {a b : E} (k : wpE Φ a Γ fun x Γ1 => wpE Φ b Γ1 fun y Γ2 => ∃ m n, x = .int m ∧ y = .int n ∧ (-(2 ^ 62) ≤ m ∧ m < 2 ^ 62 ∧ -(2 ^ 62) ≤ n ∧ n < 2 ^ 62) ∧ R ((List.range (n - m).toNat).map fun (k : Nat) => .int (m + k)) Γ2) : wpI Φ (.rng2 a b) Γ R := by
  simp only [wpI]; exact k
theorem i_enum {p : P} (k : wpP Φ p Γ fun x Γ1 => kHold p x Γ1 fun xs Γ2 => R (xs.zipIdx.map fun q => .tup [.int (q.2 : Nat), q.1]) Γ2) : wpI Φ (.enum p) Γ R := by simp only [wpI]; exact k
theorem i_zip2 {p q : P} (k : wpP Φ p Γ fun x Γ1 => kHold p x Γ1 fun xs Γ2 => wpP Φ q Γ2 fun y Γ3 => kHold q y Γ3 fun ys Γ4 => R ((xs.zip ys).map fun z => .tup [z.1, z.2]) Γ4) : wpI Φ (.zip2 p q) Γ R := by simp only [wpI]; exact k
theorem i_zip3 {p q r : P} (k : wpP Φ p Γ fun x Γ1 => kHold p x Γ1 fun xs Γ2 => wpP Φ q Γ2 fun y Γ3 => kHold q y Γ3 fun ys Γ4 => wpP Φ r Γ4 fun z Γ5 => kHold r z Γ5 fun zs Γ6 => R ((xs.zip (ys.zip zs)).map fun z => .tup [z.1, z.2.1, z.2.2]) Γ6) : wpI Φ (.zip3 p q r) Γ R := by
  simp only [wpI]; exact k
end
/-! ### statements -/
section
variable {Φ : Nat → Spec} {Γ : Env} {D : Ends}
theorem s_nil (k : D.nx Γ) : wpSs Φ .nil D Γ := by simp only [wpSs]; exact k
theorem s_cons {s : S} {ss : Ss} (k : wpS Φ s { D with nx := wpSs Φ ss D } Γ) : wpSs Φ (.cons s ss) D Γ := by simp only [wpSs]; exact k
theorem s_asg {g : G} {e : E} (k : wpE Φ e Γ fun t Γ1 => kBind g t Γ1 D.nx) : wpS Φ (.asg g e) D Γ := by simp only [wpS]; exact k
def kApp (i : Nat) (t : T) (Γ : Env) (nx : Env → Prop) : Prop := ∃ xs, Γ[i]? = some (some (.lst true xs)) ∧ xs.length < sizeLine ∧ nx (Γ.set i (some (.lst true (xs ++ [t]))))
theorem k_app {i : Nat} {t : T} {xs : List T} {nx : Env → Prop} (h : Γ[i]? = some (some (.lst true xs))) (l : xs.length < sizeLine) (k : nx (Γ.set i (some (.lst true (xs ++ [t]))))) : kApp i t Γ nx := ⟨xs, h, l, k⟩
theorem s_app {i : Nat} {e : E} {o : Bool} {us : List T} (h : Γ[i]? = some (some (.lst o us))) (k : wpE Φ e Γ fun t Γ1 => kApp i t Γ1 D.nx) : wpS Φ (.app i e) D Γ := by
  simp only [wpS]; exact ⟨⟨o, us, h⟩, k⟩
def kExt (i : Nat) (t : T) (Γ : Env) (nx : Env → Prop) : Prop := ∃ xs ys, Γ[i]? = some (some (.lst true xs)) ∧ items t = some ys ∧ isFs ys = true ∧ xs.length + ys.length ≤ sizeLine ∧ nx (Γ.set i (some (.lst true (xs ++ ys))))
theorem k_ext {i : Nat} {t : T} {xs ys : List T} {nx : Env → Prop} (h : Γ[i]? = some (some (.lst true xs))) (e : items t = some ys) (f : isFs ys = true) (l : xs.length + ys.length ≤ sizeLine) (k : nx (Γ.set i (some (.lst true (xs ++ ys))))) : kExt i t Γ nx := ⟨xs, ys, h, e, f, l, k⟩
theorem s_ext {i : Nat} {p : P} {o : Bool} {us : List T} (h : Γ[i]? = some (some (.lst o us))) (k : wpP Φ p Γ fun t Γ1 => kExt i t Γ1 D.nx) : wpS Φ (.ext i p) D Γ := by
  simp only [wpS]; exact ⟨⟨o, us, h⟩, k⟩
theorem s_ex {e : E} (k : wpE Φ e Γ fun _ Γ1 => D.nx Γ1) : wpS Φ (.ex e) D Γ := by simp only [wpS]; exact k
theorem s_ret {e : E} (k : wpE Φ e Γ D.rt) : wpS Φ (.ret e) D Γ := by simp only [wpS]; exact k
theorem s_retN (k : D.rt .non Γ) : wpS Φ .retN D Γ := by simp only [wpS]; exact k
theorem s_iff {c : C} {a b : Ss} (k : wpC Φ c Γ fun d Γ1 => kIf d (wpSs Φ a D Γ1) (wpSs Φ b D Γ1)) : wpS Φ (.iff c a b) D Γ := by simp only [wpS]; exact k
theorem s_brk (k : D.bk Γ) : wpS Φ .brk D Γ := by simp only [wpS]; exact k
theorem s_cnt (k : D.ct Γ) : wpS Φ .cnt D Γ := by simp only [wpS]; exact k
theorem s_pas (k : D.nx Γ) : wpS Φ .pas D Γ := by simp only [wpS]; exact k
theorem s_kill {ks : List Nat} (k : D.nx (wipeE ks Γ)) : wpS Φ (.kill ks) D Γ := by simp only [wpS]; exact k
theorem s_frz {i : Nat} {t : T} (h : Γ[i]? = some (some t)) (k : D.nx (Γ.set i (some (fz t)))) : wpS Φ (.frz i) D Γ := by simp only [wpS]; exact ⟨t, h, k⟩
theorem s_aug {i : Nat} {o : Op} {e : E} {x : T} (h : Γ[i]? = some (some x)) (f : isF x = true) (k : wpE Φ e Γ fun y Γ1 => augP o x y fun z => D.nx (Γ1.set i (some z))) : wpS Φ (.aug i o e) D Γ := by simp only [wpS]; exact ⟨x, h, f, k⟩
/-- an item stored -/
def kSet (i : Nat) (y t : T) (Γ : Env) (nx : Env → Prop) : Prop := isF t = true ∧
  ((∃ xs j q, Γ[i]? = some (some (.lst true xs)) ∧ y = .int j ∧ L2.ixN xs.length j = some q ∧ nx (Γ.set i (some (.lst true (xs.set q t))))) ∨
   (∃ ks vs, Γ[i]? = some (some (.dic true ks vs)) ∧ keyFit y ks = true ∧ isFs vs = true ∧ ks.length < sizeLine ∧ nx (Γ.set i (some (.dic true (putKs y ks) (putVs y t ks vs))))))
theorem k_setL {i q : Nat} {j : Int} {t : T} {xs : List T} {nx : Env → Prop} (f : isF t = true) (h : Γ[i]? = some (some (.lst true xs))) (hq : L2.ixN xs.length j = some q) (k : nx (Γ.set i (some (.lst true (xs.set q t))))) : kSet i (.int j) t Γ nx := ⟨f, .inl ⟨xs, j, q, h, rfl, hq, k⟩⟩
theorem k_setD {i : Nat} {y t : T} {ks vs : List T} {nx : Env → Prop} (f : isF t = true) (h : Γ[i]? = some (some (.dic true ks vs))) (hk : keyFit y ks = true) (fv : isFs vs = true) (hl : ks.length < sizeLine) (k : nx (Γ.set i (some (.dic true (putKs y ks) (putVs y t ks vs))))) : kSet i y t Γ nx :=
  ⟨f, .inr ⟨ks, vs, h, hk, fv, hl, k⟩⟩
theorem s_setIx {i : Nat} {k e : E} (h : wpE Φ e Γ fun t Γ1 => (∃ u, Γ1[i]? = some (some u)) ∧ wpE Φ k Γ1 fun y Γ2 => kSet i y t Γ2 D.nx) : wpS Φ (.setIx i k e) D Γ := by
  simp only [wpS]; exact h
/-- a for by its invariant -/
theorem for_inv {step : T → (Env → Prop) → Env → Prop} {nx : Env → Prop} {xs : List T} (Iv : Nat → Env → Prop) (hs : ∀ i x Γ, xs[i]? = some x → Iv i Γ → ∀ again : Env → Prop, (∀ Γ', Iv (i + 1) Γ' → again Γ') → step x again Γ) (hn : ∀ Γ, Iv xs.length Γ → nx Γ) : ∀ Γ, Iv 0 Γ → forLoop step nx xs Γ := by
  suffices h : ∀ (r : List T) (k : Nat) (Γ : Env), (∀ j, r[j]? = xs[k + j]?) → k + r.length = xs.length → Iv k Γ → forLoop step nx r Γ from fun Γ i => h xs 0 Γ (fun j => by rw [Nat.zero_add]) (by omega) i
  intro r
  induction r with
  | nil =>
    intro k Γ _ e i
    simp only [forLoop]
    have : k = xs.length := by simpa using e
    subst this
    exact hn Γ i
  | cons x r ih =>
    intro k Γ g e i
    simp only [forLoop]
    refine hs k x Γ (by have := g 0; simpa using this.symm) i _ fun Γ' i' => ?_
    exact ih (k + 1) Γ' (fun j => by have := g (j + 1); rw [show k + 1 + j = k + (j + 1) by omega, ← this]; simp) (by simp at e; omega) i'
def kFor (Φ : Nat → Spec) (g : G) (body : Ss) (D : Ends) (xs : List T) (Γ : Env) : Prop := forLoop (fun x again Γ' => kBind g x Γ' fun Γ2 => wpSs Φ body { D with nx := again, ct := again, bk := D.nx } Γ2) D.nx xs Γ
theorem s_forr {g : G} {it : I} {body : Ss} (k : wpI Φ it Γ fun xs Γ1 => kFor Φ g body D xs Γ1) : wpS Φ (.forr g it body) D Γ := by simp only [wpS]; exact k
theorem k_for {g : G} {body : Ss} {xs : List T} (Iv : Nat → Env → Prop) (h0 : Iv 0 Γ) (hs : ∀ i x Γ, xs[i]? = some x → Iv i Γ → ∀ again : Env → Prop, (∀ Γ', Iv (i + 1) Γ' → again Γ') → kBind g x Γ fun Γ2 => wpSs Φ body { D with nx := again, ct := again, bk := D.nx } Γ2) (hn : ∀ Γ, Iv xs.length Γ → D.nx Γ) : kFor Φ g body D xs Γ :=
  for_inv Iv hs hn Γ h0
theorem s_forB {g : G} {i : Nat} {body : Ss} {ys : List T} (h : Γ[i]? = some (some (.lst true ys))) (f : isFs ys = true)
    (k : kFor Φ g body { D with nx := fun Γ2 => D.nx (Γ2.set i (some (.lst true ys))) } ys (Γ.set i none)) : wpS Φ (.forB g i body) D Γ := by simp only [wpS]; exact ⟨ys, h, f, k⟩
/-- a while by its invariant and a measure -/
theorem whl_inv {step : (Env → Prop) → Env → Prop} (Iv : Nat → Env → Prop) (hs : ∀ m Γ, Iv m Γ → ∀ again : Env → Prop, (∀ m' Γ', m' < m → Iv m' Γ' → again Γ') → step again Γ) {m : Nat} {Γ : Env} (h : Iv m Γ) : ∃ n, whlLoop step n Γ := by
  suffices g : ∀ n m Γ, m < n → Iv m Γ → whlLoop step n Γ from ⟨m + 1, g (m + 1) m Γ (Nat.lt_succ_self m) h⟩
  intro n
  induction n with
  | zero => intro m Γ h; omega
  | succ n ih =>
    intro m Γ hm i
    simp only [whlLoop]
    exact hs m Γ i _ fun m' Γ' hm' i' => ih m' Γ' (by omega) i'
theorem s_whl {c : C} {body : Ss} (Iv : Nat → Env → Prop) {m : Nat} (h0 : Iv m Γ) (hs : ∀ m Γ, Iv m Γ → ∀ again : Env → Prop, (∀ m' Γ', m' < m → Iv m' Γ' → again Γ') →
    wpC Φ c Γ fun d Γ1 => kIf d (wpSs Φ body { D with nx := again, ct := again, bk := D.nx } Γ1) (D.nx Γ1)) : wpS Φ (.whl c body) D Γ := by
  simp only [wpS]
  exact whl_inv Iv hs h0
end
end PL

end
section
set_option maxHeartbeats 1000000
/-! PLx: operations at values of a known kind; the step. -/
namespace PL
open PySem (Str sizeLine)

section
variable {Q : T → Prop} {K : Bool → Prop} {i j : Int} {x y : Str} {a b t : T} {xs ys : List T} {o p : Bool}
theorem o_addI (k : Q (.int (i + j))) : opP .add (.int i) (.int j) Q := k
theorem o_addS (h : x.length + y.length ≤ sizeLine) (k : Q (.str (x ++ y))) : opP .add (.str x) (.str y) Q := ⟨h, k⟩
theorem o_addT (f : isFs xs = true) (g : isFs ys = true) (h : xs.length + ys.length ≤ sizeLine) (k : Q (.tup (xs ++ ys))) : opP .add (.tup xs) (.tup ys) Q := ⟨f, g, h, k⟩
theorem o_addL (f : isFs xs = true) (g : isFs ys = true) (h : xs.length + ys.length ≤ sizeLine) (k : Q (.lst true (xs ++ ys))) : opP .add (.lst o xs) (.lst p ys) Q := ⟨f, g, h, k⟩
theorem o_sub (k : Q (.int (i - j))) : opP .sub (.int i) (.int j) Q := k
theorem o_mul (h : L2.CMul i j ∨ L2.CMulW i j) (k : Q (.int (i * j))) : opP .mul (.int i) (.int j) Q := ⟨h, k⟩
theorem o_fdiv (h : L2.CDiv i j) (k : Q (.int (i / j))) : opP .fdiv (.int i) (.int j) Q := ⟨h, k⟩
theorem o_mod (h : 0 < j) (k : Q (.int (i % j))) : opP .mod (.int i) (.int j) Q := ⟨h, k⟩
theorem o_pow (h : L2.CPow i j) (k : Q (.int (i ^ j.toNat))) : opP .pow (.int i) (.int j) Q := ⟨h, k⟩
theorem r_ltI (k : K (decide (i < j))) : rlP .lt (.int i) (.int j) K := k
theorem r_leI (k : K (decide (i ≤ j))) : rlP .le (.int i) (.int j) K := k
theorem r_gtI (k : K (decide (j < i))) : rlP .gt (.int i) (.int j) K := k
theorem r_geI (k : K (decide (j ≤ i))) : rlP .ge (.int i) (.int j) K := k
theorem eqT_int : eqT (.int i) (.int j) = decide (i = j) := eqT_k1 rfl rfl |>.trans (by simp)
theorem eqT_str : eqT (.str x) (.str y) = decide (x = y) := eqT_k1 rfl rfl |>.trans (by simp)
theorem r_eqI (k : K (decide (i = j))) : rlP .eq (.int i) (.int j) K := ⟨rfl, rfl, by rw [eqT_int]; exact k⟩
theorem r_neI (k : K (!decide (i = j))) : rlP .ne (.int i) (.int j) K := ⟨rfl, rfl, by rw [eqT_int]; exact k⟩
theorem r_eqS (f : shp (.str x) = true) (g : shp (.str y) = true) (k : K (decide (x = y))) : rlP .eq (.str x) (.str y) K := ⟨f, g, by rw [eqT_str]; exact k⟩
theorem r_neS (f : shp (.str x) = true) (g : shp (.str y) = true) (k : K (!decide (x = y))) : rlP .ne (.str x) (.str y) K := ⟨f, g, by rw [eqT_str]; exact k⟩
theorem r_eq (f : shp a = true) (g : shp b = true) (k : K (eqT a b)) : rlP .eq a b K := ⟨f, g, k⟩
theorem r_ne (f : shp a = true) (g : shp b = true) (k : K (!eqT a b)) : rlP .ne a b K := ⟨f, g, k⟩
theorem r_isN (k : K (isNon a)) : rlP .is a .non K := by cases a <;> exact k
theorem r_isnN (k : K (!isNon a)) : rlP .isn a .non K := by cases a <;> exact k
theorem r_isB {c d : Bool} (k : K (c == d)) : rlP .is (.bl c) (.bl d) K := k
theorem r_isnB {c d : Bool} (k : K (!(c == d))) : rlP .isn (.bl c) (.bl d) K := k
theorem r_inT (f : shp a = true) (g : shp (.tup xs) = true) (k : K (xs.any fun x => eqT x a)) : rlP .inn a (.tup xs) K := ⟨f, g, k⟩
theorem r_ninT (f : shp a = true) (g : shp (.tup xs) = true) (k : K (!xs.any fun x => eqT x a)) : rlP .nin a (.tup xs) K := ⟨f, g, k⟩
theorem r_inL (f : shp a = true) (g : shp (.lst false xs) = true) (k : K (xs.any fun x => eqT x a)) : rlP .inn a (.lst o xs) K := ⟨f, g, k⟩
theorem r_ninL (f : shp a = true) (g : shp (.lst false xs) = true) (k : K (!xs.any fun x => eqT x a)) : rlP .nin a (.lst o xs) K := ⟨f, g, k⟩
theorem r_inD (f : keyFit a xs = true) (k : K (keyIx a xs).isSome) : rlP .inn a (.dic o xs ys) K := ⟨f, k⟩
theorem r_ninD (f : keyFit a xs = true) (k : K (!(keyIx a xs).isSome)) : rlP .nin a (.dic o xs ys) K := ⟨f, k⟩
theorem b_lenT (k : Q (.int xs.length)) : biP .len (.tup xs) Q := k
theorem b_lenL (k : Q (.int xs.length)) : biP .len (.lst o xs) Q := k
theorem b_listT (f : isFs xs = true) (k : Q (.lst true xs)) : biP .list (.tup xs) Q := ⟨f, k⟩
theorem b_listL (f : isFs xs = true) (k : Q (.lst true xs)) : biP .list (.lst o xs) Q := ⟨f, k⟩
theorem b_tupT (f : isFs xs = true) (k : Q (.tup xs)) : biP .tuple (.tup xs) Q := ⟨f, k⟩
theorem b_tupL (f : isFs xs = true) (k : Q (.tup xs)) : biP .tuple (.lst o xs) Q := ⟨f, k⟩
theorem b_intI (k : Q (.int i)) : biP .int (.int i) Q := k
theorem b_intB {c : Bool} (k : Q (.int (if c then 1 else 0))) : biP .int (.bl c) Q := k
theorem b_abs (k : Q (.int (if i < 0 then -i else i))) : biP .abs (.int i) Q := k
theorem b_str (h : i.natAbs.log2 < 1920) (k : Q (.str (toString i))) : biP .str (.int i) Q := ⟨h, k⟩
theorem b_all {bs : List Bool} (h : blsT xs = some bs) (k : Q (.bl (bs.all id))) : biP .all (.lst o xs) Q := ⟨bs, h, k⟩
theorem b_any {bs : List Bool} (h : blsT xs = some bs) (k : Q (.bl (bs.any id))) : biP .any (.lst o xs) Q := ⟨bs, h, k⟩
theorem b_sum {ns : List Int} (h : intsT xs = some ns) (k : Q (.int ns.sum)) : biP .sum (.lst o xs) Q := ⟨ns, h, k⟩
theorem b_sortL (f : isFs xs = true) (h : sortable xs) (k : Q (.lst true (xs.mergeSort (PySem.W.dataLe false data)))) : biP .sorted (.lst o xs) Q := ⟨f, h, k⟩
theorem b_sortT (f : isFs xs = true) (h : sortable xs) (k : Q (.lst true (xs.mergeSort (PySem.W.dataLe false data)))) : biP .sorted (.tup xs) Q := ⟨f, h, k⟩
theorem m_I {mx : Bool} (k : Q (.int (if mx then (if j > i then j else i) else (if j < i then j else i)))) : mmP mx (.int i) (.int j) Q := ⟨i, j, rfl, rfl, k⟩
theorem l_tup {lo hi : Option Int} (f : isFs xs = true) (k : Q (.tup (slP.cutV' xs lo hi))) : slP (.tup xs) lo hi Q := ⟨f, k⟩
theorem l_lst {lo hi : Option Int} (f : isFs xs = true) (k : Q (.lst true (slP.cutV' xs lo hi))) : slP (.lst o xs) lo hi Q := ⟨f, k⟩
theorem l_str {lo hi : Option Int} (h : x.length ≤ sizeLine) (k : Q (.str (L2.cutS x lo hi))) : slP (.str x) lo hi Q := ⟨h, k⟩
theorem l_scr {lo hi : Option Int} {ns : List Int} (k : Q (.lst true (slP.cutV' (ns.map T.int) lo hi))) : slP (.scr ns) lo hi Q := k
theorem ch_and {A : Prop} (h : isF a = true) (k : A) : isF a = true ∧ A := ⟨h, k⟩
end
theorem k_ifD {p : Prop} [Decidable p] {A B : Prop} (h1 : p → A) (h2 : ¬ p → B) : kIf (decide p) A B := k_if (fun h => h1 (of_decide_eq_true h)) fun h => h2 (of_decide_eq_false h)
theorem k_ifN {p : Prop} [Decidable p] {A B : Prop} (h1 : ¬ p → A) (h2 : p → B) : kIf (!decide p) A B := k_if (fun h => h1 (by simpa using h)) fun h => h2 (by simpa using h)
theorem sfz_F {x : T} (h : isF x = true) : sfz x = x := by
  cases x with
  | lst o xs =>
    cases o with
    | true => simp [isF] at h
    | false => rfl
  | dic o ks vs =>
    cases o with
    | true => simp [isF] at h
    | false => rfl
  | _ => rfl
theorem k_holdT {e : E} {x : T} {xs : List T} {Γ : Env} {R : List T → Env → Prop} (h : items x = some xs) (f : isFs xs = true) (k : R xs Γ) : kHold (.tmp e) x Γ R := ⟨xs, h, f, k⟩
theorem k_holdV {i : Nat} {x : T} {xs : List T} {Γ : Env} {R : List T → Env → Prop} (h : items x = some xs) (f : isFs xs = true) (g : isF x = true) (k : R xs (Γ.set i (some x))) : kHold (.var i) x Γ R := ⟨xs, h, f, by
  show R xs (Γ.set i (some (sfz x)))
  rw [sfz_F g]
  exact k⟩
theorem k_holdO {i : Nat} {xs : List T} {Γ : Env} {R : List T → Env → Prop} (f : isFs xs = true) (k : R xs (Γ.set i (some (.lst false xs)))) : kHold (.var i) (.lst true xs) Γ R := ⟨xs, rfl, f, k⟩
theorem blsT_map {α : Type} (g : α → Bool) : ∀ xs : List α, blsT (xs.map fun x => .bl (g x)) = some (xs.map g)
  | [] => rfl
  | x :: xs => by simp [blsT, blsT_map g xs]
theorem intsT_map {α : Type} (g : α → Int) : ∀ xs : List α, intsT (xs.map fun x => .int (g x)) = some (xs.map g)
  | [] => rfl
  | x :: xs => by simp [intsT, intsT_map g xs]
theorem b_lenI {x : T} {xs : List T} {Q : T → Prop} (h : items x = some xs) (k : Q (.int xs.length)) : biP .len x Q := by
  cases x <;> first | cases h | skip
  all_goals exact k
theorem k_ifnT {A B : Prop} (k : B) : kIf (!true) A B := k
theorem k_ifnF {A B : Prop} (k : A) : kIf (!false) A B := k
theorem k_io {m : List Bool} {Q : List T → Prop} {Γ : Env} (h : m.any id = false) (k : Q []) : ioK m Q Γ := by
  unfold ioK
  rw [h]
  exact k
theorem isFs_nil : isFs [] = true := rfl
theorem isFs_cons {x : T} {xs : List T} (h : isF x = true) (k : isFs xs = true) : isFs (x :: xs) = true := by simp [isFs, h, k]
theorem isFs_app {xs ys : List T} (h : isFs xs = true) (k : isFs ys = true) : isFs (xs ++ ys) = true := by rw [isFs_all, List.all_append, ← isFs_all, ← isFs_all, h, k]; rfl
theorem isF_tup {xs : List T} (h : isFs xs = true) : isF (.tup xs) = true := by simpa [isF] using h
theorem isF_lst {xs : List T} (h : isFs xs = true) : isF (.lst false xs) = true := by simpa [isF] using h
theorem isF_int {i : Int} : isF (.int i) = true := rfl
theorem isF_bl {i : Bool} : isF (.bl i) = true := rfl
theorem isF_str {i : Str} : isF (.str i) = true := rfl
theorem isF_non : isF .non = true := rfl
end PL

end
section
set_option maxHeartbeats 1000000
/-! PLy: the law's def, where the script is handed in. -/
namespace PL
open PySem PySem.Spec L2
open PyProof.Rows hiding St
theorem law_sp {K : PySem.W.Frag} {H : Hp} {a : Addr} {ns : List Int} {φ : Spec} {E : XK} (hS : SqL K H a (ns.map V.int)) (hφ : ∀ Q : T → List T → Prop, Q (.bl true) [] → φ [.scr ns] Q) :
    spT K [false] φ [.ref a] H (fun v _ => v = .bl true) E := by
  refine ⟨rfl, [.scr ns], [[]], fun b => ∃ o, H b = some o, fun t io => t = .bl true ∧ io = [], ?_, rfl, ⟨by simp, by simp, by simp⟩, fun b h => h, hφ _ ⟨rfl, rfl⟩, ?_⟩
  · refine ⟨?_, trivial⟩
    simp only [Rep]
    refine ⟨trivial, a, rfl, ?_⟩
    rcases hS with h | h
    · refine .inl ⟨?_, h⟩
      rcases h with h | ⟨o, h⟩
      · exact ⟨_, h⟩
      · exact ⟨_, h⟩
    · exact .inr h
  · rintro t io v H' Z' os Oio ⟨rfl, rfl⟩ hr _ _ _ _
    simp only [Rep] at hr
    exact hr.2
/-- what is to be shown of a def -/
def VCd (Φ : Nat → Spec) (m : List Bool) (φ : Spec) (il : Ss) (n : Nat) : Prop :=
  ∀ ts Q, ts.length = m.length → argsM m ts = true → φ ts Q → wpSs Φ il { nx := fun Γ => ioK m (Q .non) Γ, rt := fun t Γ => ioK m (Q t) Γ } (ent n ts)
theorem def_in {P : Program} {w : World} {K : PySem.W.Frag} {mg : Str → Option Value} {base : Heap} {k : Nat} {x : Str} {st : Stmt} {f : Addr} {fd : FuncData} {N ps : List Str} {m : List Bool} {fs : List (Str × List Bool)} {Φ : Nat → Spec} {φ : Spec} {il : Ss}
    (all : AllF P w K mg base fs Φ k) (mgN : ∀ x ∈ bltN, mg x = none) (F : FunD K x x (defArgs st) (defBody st) (defScope st) [] [] f fd) (g : mg x = some (.ref f)) (S : FnScope N ps (defScope st)) (hm : m.length = ps.length)
    (ck : cSs 200 ⟨N, defScope st, defScope st, fs.take k, ioIx m⟩ il (defBody st) = true) (vc : VCd Φ m φ il N.length)
    (b : ∀ (kV doc pm : Value) (an : Option Addr) (cdv ct : Value) (us : List Value), us.length = ps.length → bindArgs (PySem.W.fnOf x x (defArgs st) (defBody st) (defScope st) .none kV doc pm an cdv ct) ⟨us, []⟩ = pure (ps.zip us)) : FnIn P w K mg base (k + 1) x m φ :=
  ⟨f, fd, ps, def_ok k 200 F S hm all (Nat.le_refl _) mgN ck vc, g, F.kp, F.bindsN b⟩
end PL

end
section
set_option maxHeartbeats 0
namespace HeadT
open PySem PySem.Spec PyProof.Rows L2
def top (i : Nat) : Stmt := PySem.Challenge.pw_halffilled_k80_whole_hull_wide.main.body.getD i (.Pass ⟨0, 0, 0, 0⟩)
def mkD (x : Str) (i : Nat) : He.DefD := ⟨(x, none), x, x, defArgs (top i), defBody (top i), defScope (top i), [], []⟩

def fn0 : List He.DefD := [mkD "is_integer" 1, mkD "integer_within" 2, mkD "tuple_of" 3, mkD "holds_at" 5, mkD "holds_in" 6, mkD "answer_sayings" 7, mkD "fits_field" 9, mkD "saying_fault" 10, mkD "is_saying" 12, mkD "middle_of" 14, mkD "things_of" 16, mkD "made_by" 17, mkD "is_recipe" 18, mkD "makes" 19, mkD "seen_together" 21, mkD "all_sayings" 22, mkD "unseen_two" 23, mkD "recipe_for" 25, mkD "hull_of" 26, mkD "are_unseen" 27, mkD "is_hull" 28, mkD "_law_cells" 30, mkD "_law_pick" 31, mkD "_law_fields" 32, mkD "_law_middle" 33, mkD "_law_sayings" 34, mkD "_law_holds" 35, mkD "_law_unseen" 36, mkD "_law_same" 37, mkD "_law_run" 38]
def fn1 : List He.DefD := [mkD "_law_told" 39, mkD "_law_both" 40, mkD "_law_between" 41, mkD "_law_web" 42, mkD "_law_groups" 43, mkD "law" 44]
def fn : List He.DefD := fn0 ++ fn1
def fa0 : List He.Fa := [.glo "is_integer", .glo "integer_within", .glo "tuple_of", .glo "holds_at", .glo "holds_in", .glo "answer_sayings", .glo "fits_field", .glo "saying_fault", .glo "is_saying", .glo "middle_of", .glo "things_of", .glo "made_by", .glo "is_recipe", .glo "makes", .glo "seen_together", .glo "all_sayings", .glo "unseen_two", .glo "recipe_for", .glo "hull_of", .glo "are_unseen", .glo "is_hull", .glo "_law_cells", .glo "_law_pick", .glo "_law_fields", .glo "_law_middle", .glo "_law_sayings", .glo "_law_holds", .glo "_law_unseen", .glo "_law_same", .glo "_law_run"]
def fa1 : List He.Fa := [.glo "_law_told", .glo "_law_both", .glo "_law_between", .glo "_law_web", .glo "_law_groups", .glo "law"]
def faB : List He.Fa := [.free "len", .free "list", .free "tuple", .free "int", .free "sorted", .free "abs", .free "sum", .free "all", .free "any", .free "str", .free "isinstance", .free "bool", .free "max", .free "min", .free "range", .free "enumerate", .free "zip"]
def fa : List He.Fa := fa0 ++ fa1 ++ faB
abbrev R : PySem.W.OpenRow := PySem.W.OpenLaw.row PySem.Challenge.rw_halffilled_k80_whole_hull_wide
abbrev hk : PySem.W.Hook := He.hookD 4 fa fn
def ob (s : PySem.W.SharedT) : He.AlD := He.obsDG 4 fa fn (HandSHeadRun.getT s)
theorem ob_eq (s : PySem.W.SharedT) : ob s = hk.obs s.abs := He.obsDG_eq (HandSHeadRun.getT_eq s)
def nm0 : List PySem.Str := ["is_integer", "integer_within", "tuple_of", "holds_at", "holds_in", "answer_sayings", "fits_field", "saying_fault", "is_saying", "middle_of", "things_of", "made_by", "is_recipe", "makes", "seen_together", "all_sayings", "unseen_two", "recipe_for", "hull_of", "are_unseen", "is_hull", "_law_cells", "_law_pick", "_law_fields", "_law_middle", "_law_sayings", "_law_holds", "_law_unseen", "_law_same", "_law_run"]
def nm1 : List PySem.Str := ["_law_told", "_law_both", "_law_between", "_law_web", "_law_groups"]
def nm : List PySem.Str := nm0 ++ nm1
theorem run (w : World) : HandSHeadRun.RunEq R (PySem.W.view R.prog [44]) hk ob 3000 nm w := by
  intro os
  kernel_rfl
end HeadT

end
section
set_option maxHeartbeats 0
namespace K80
open PySem PySem.Spec L2 PL
open PyProof.Rows hiding St
def top (i : Nat) : Stmt := PySem.Challenge.pw_halffilled_k80_whole_hull_wide.main.body.getD i (.Pass ⟨0, 0, 0, 0⟩)
def fs : List (Str × List Bool) := [(("is_integer" : Str), [false]), (("integer_within" : Str), [false, false, false]), (("tuple_of" : Str), [false, false]), (("holds_at" : Str), [false, false]), (("holds_in" : Str), [false, false]), (("answer_sayings" : Str), [false, false, false]), (("fits_field" : Str), [false, false]), (("saying_fault" : Str), [false, false]), (("is_saying" : Str), [false, false]), (("middle_of" : Str), [false, false, false]), (("things_of" : Str), [false, false]), (("made_by" : Str), [false, false]), (("is_recipe" : Str), [false, false]), (("makes" : Str), [false, false, false]), (("seen_together" : Str), [false, false, false]), (("all_sayings" : Str), [false, false]), (("unseen_two" : Str), [false, false, false]), (("recipe_for" : Str), [false, false, false]), (("hull_of" : Str), [false, false, false]), (("are_unseen" : Str), [false, false, false, false]), (("is_hull" : Str), [false, false, false, false]), (("_law_cells" : Str), [false]), (("_law_pick" : Str), [false, false, false]), (("_law_fields" : Str), [false, false, false]), (("_law_same" : Str), [false, false]), (("_law_middle" : Str), [false, false, false]), (("_law_between" : Str), [false, false, false, false]), (("_law_sayings" : Str), [false, false]), (("_law_holds" : Str), [false, false]), (("_law_unseen" : Str), [false, false]), (("_law_run" : Str), [false, false]), (("_law_told" : Str), [false, false, false]), (("_law_both" : Str), [false, false, false, false]), (("_law_web" : Str), [false]), (("_law_groups" : Str), [false]), (("law" : Str), [false])]
/-- 0: is_integer 0=thing -/
def n_is_integer : List Str := ["thing"]
def p_is_integer : List Str := ["thing"]
def il_is_integer : Ss := (.cons (.ret (.and (.isi (.var 0) .int) (.nott (.tmp (.isi (.var 0) .bool))))) .nil)
theorem ck_is_integer : cSs 200 ⟨n_is_integer, defScope (top 1), defScope (top 1), fs.take 0, ioIx [false]⟩ il_is_integer (defBody (top 1)) = true := by decide +kernel
theorem sc_is_integer : FnScope n_is_integer p_is_integer (defScope (top 1)) := ⟨rfl, rfl, rfl, by decide +kernel, rfl, by decide +kernel, by decide +kernel⟩
/-- 1: integer_within 0=thing 1=low 2=high -/
def n_integer_within : List Str := ["thing", "low", "high"]
def p_integer_within : List Str := ["thing", "low", "high"]
def il_integer_within : Ss := (.cons (.ret (.and (.call 0 (.cons (.cp 0) .nil)) (.chain .le .le (.cp 1) (.cp 0) (.cp 2)))) .nil)
theorem ck_integer_within : cSs 200 ⟨n_integer_within, defScope (top 2), defScope (top 2), fs.take 1, ioIx [false, false, false]⟩ il_integer_within (defBody (top 2)) = true := by decide +kernel
theorem sc_integer_within : FnScope n_integer_within p_integer_within (defScope (top 2)) := ⟨rfl, rfl, rfl, by decide +kernel, rfl, by decide +kernel, by decide +kernel⟩
/-- 2: tuple_of 0=thing 1=many -/
def n_tuple_of : List Str := ["thing", "many"]
def p_tuple_of : List Str := ["thing", "many"]
def il_tuple_of : Ss := (.cons (.ret (.and (.isi (.var 0) .tuple) (.cmp .eq (.tmp (.bi .len (.var 0))) (.var 1)))) .nil)
theorem ck_tuple_of : cSs 200 ⟨n_tuple_of, defScope (top 3), defScope (top 3), fs.take 2, ioIx [false, false]⟩ il_tuple_of (defBody (top 3)) = true := by decide +kernel
theorem sc_tuple_of : FnScope n_tuple_of p_tuple_of (defScope (top 3)) := ⟨rfl, rfl, rfl, by decide +kernel, rfl, by decide +kernel, by decide +kernel⟩
/-- 3: holds_at 0=saying 1=answer -/
def n_holds_at : List Str := ["saying", "answer"]
def p_holds_at : List Str := ["saying", "answer"]
def il_holds_at : Ss := (.cons (.ret (.cmp .ge (.tmp (.op .mul (.idx (.var 0) (.int 1)) (.cp 1))) (.tmp (.op .mul (.idx (.var 0) (.int 1)) (.idx (.var 0) (.int 2)))))) .nil)
theorem ck_holds_at : cSs 200 ⟨n_holds_at, defScope (top 5), defScope (top 5), fs.take 3, ioIx [false, false]⟩ il_holds_at (defBody (top 5)) = true := by decide +kernel
theorem sc_holds_at : FnScope n_holds_at p_holds_at (defScope (top 5)) := ⟨rfl, rfl, rfl, by decide +kernel, rfl, by decide +kernel, by decide +kernel⟩
/-- 4: holds_in 0=saying 1=sheet 2=answer -/
def n_holds_in : List Str := ["saying", "sheet", "answer"]
def p_holds_in : List Str := ["saying", "sheet"]
def il_holds_in : Ss := (.cons (.asg (.nm 2) (.idx (.var 1) (.idx (.var 0) (.int 0)))) (.cons (.ret (.and (.cmp .isn (.var 2) (.tmp .non)) (.call 3 (.cons (.cp 0) (.cons (.cp 2) .nil))))) .nil))
theorem ck_holds_in : cSs 200 ⟨n_holds_in, defScope (top 6), defScope (top 6), fs.take 4, ioIx [false, false]⟩ il_holds_in (defBody (top 6)) = true := by decide +kernel
theorem sc_holds_in : FnScope n_holds_in p_holds_in (defScope (top 6)) := ⟨rfl, rfl, rfl, by decide +kernel, rfl, by decide +kernel, by decide +kernel⟩
/-- 5: answer_sayings 0=fields 1=number 2=answer 3=_ 4=low 5=high 6=found -/
def n_answer_sayings : List Str := ["fields", "number", "answer", "_", "low", "high", "found"]
def p_answer_sayings : List Str := ["fields", "number", "answer"]
def il_answer_sayings : Ss := (.cons (.asg (.tp [(.nm 3), (.nm 4), (.nm 5)]) (.idx (.var 0) (.cp 1))) (.cons (.asg (.nm 6) (.lst .nil)) (.cons (.iff (.cmp .lt (.var 2) (.var 5)) (.cons (.app 6 (.tup (.cons (.cp 1) (.cons (.neg (.int 1)) (.cons (.cp 2) .nil))))) .nil) .nil) (.cons (.iff (.cmp .gt (.var 2) (.var 4)) (.cons (.app 6 (.tup (.cons (.cp 1) (.cons (.int 1) (.cons (.cp 2) .nil))))) .nil) .nil) (.cons (.ret (.bi .tuple (.var 6))) .nil)))))
theorem ck_answer_sayings : cSs 200 ⟨n_answer_sayings, defScope (top 7), defScope (top 7), fs.take 5, ioIx [false, false, false]⟩ il_answer_sayings (defBody (top 7)) = true := by decide +kernel
theorem sc_answer_sayings : FnScope n_answer_sayings p_answer_sayings (defScope (top 7)) := ⟨rfl, rfl, rfl, by decide +kernel, rfl, by decide +kernel, by decide +kernel⟩
/-- 6: fits_field 0=fields 1=saying 2=number 3=way 4=answer 5=_ 6=low 7=high -/
def n_fits_field : List Str := ["fields", "saying", "number", "way", "answer", "_", "low", "high"]
def p_fits_field : List Str := ["fields", "saying"]
def il_fits_field : Ss := (.cons (.asg (.tp [(.nm 2), (.nm 3), (.nm 4)]) (.cp 1)) (.cons (.asg (.tp [(.nm 5), (.nm 6), (.nm 7)]) (.idx (.var 0) (.cp 2))) (.cons (.iff (.cmp .eq (.var 3) (.tmp (.int 1))) (.cons (.ret (.chain .lt .le (.cp 6) (.cp 4) (.cp 7))) .nil) .nil) (.cons (.ret (.chain .le .lt (.cp 6) (.cp 4) (.cp 7))) .nil))))
theorem ck_fits_field : cSs 200 ⟨n_fits_field, defScope (top 9), defScope (top 9), fs.take 6, ioIx [false, false]⟩ il_fits_field (defBody (top 9)) = true := by decide +kernel
theorem sc_fits_field : FnScope n_fits_field p_fits_field (defScope (top 9)) := ⟨rfl, rfl, rfl, by decide +kernel, rfl, by decide +kernel, by decide +kernel⟩
/-- 7: saying_fault 0=fields 1=thing 2=part -/
def n_saying_fault : List Str := ["fields", "thing", "part"]
def p_saying_fault : List Str := ["fields", "thing"]
def il_saying_fault : Ss := (.cons (.iff (.or (.not (.val (.tmp (.call 2 (.cons (.cp 1) (.cons (.int 3) .nil)))))) (.not (.val (.tmp (.bi .all (.tmp (.lc [2] (.seq (.var 1)) (.nm 2) .no (.call 0 (.cons (.cp 2) .nil))))))))) (.cons (.ret (.str "shape")) .nil) .nil) (.cons (.iff (.not (.chain .le .lt (.int 0) (.idx (.var 1) (.int 0)) (.bi .len (.var 0)))) (.cons (.ret (.str "field")) .nil) .nil) (.cons (.iff (.cmp .nin (.tmp (.idx (.var 1) (.int 1))) (.tmp (.tup (.cons (.int 1) (.cons (.neg (.int 1)) .nil))))) (.cons (.ret (.str "way")) .nil) .nil) (.cons (.iff (.not (.val (.tmp (.call 6 (.cons (.cp 0) (.cons (.cp 1) .nil)))))) (.cons (.ret (.str "answer")) .nil) .nil) (.cons (.ret .non) .nil)))))
theorem ck_saying_fault : cSs 200 ⟨n_saying_fault, defScope (top 10), defScope (top 10), fs.take 7, ioIx [false, false]⟩ il_saying_fault (defBody (top 10)) = true := by decide +kernel
theorem sc_saying_fault : FnScope n_saying_fault p_saying_fault (defScope (top 10)) := ⟨rfl, rfl, rfl, by decide +kernel, rfl, by decide +kernel, by decide +kernel⟩
/-- 8: is_saying 0=fields 1=thing -/
def n_is_saying : List Str := ["fields", "thing"]
def p_is_saying : List Str := ["fields", "thing"]
def il_is_saying : Ss := (.cons (.ret (.cmp .is (.tmp (.call 7 (.cons (.cp 0) (.cons (.cp 1) .nil)))) (.tmp .non))) .nil)
theorem ck_is_saying : cSs 200 ⟨n_is_saying, defScope (top 12), defScope (top 12), fs.take 8, ioIx [false, false]⟩ il_is_saying (defBody (top 12)) = true := by decide +kernel
theorem sc_is_saying : FnScope n_is_saying p_is_saying (defScope (top 12)) := ⟨rfl, rfl, rfl, by decide +kernel, rfl, by decide +kernel, by decide +kernel⟩
/-- 9: middle_of 0=one 1=two 2=three 3=answers -/
def n_middle_of : List Str := ["one", "two", "three", "answers"]
def p_middle_of : List Str := ["one", "two", "three"]
def il_middle_of : Ss := (.cons (.ret (.bi .tuple (.tmp (.lc [3] (.zip3 (.var 0) (.var 1) (.var 2)) (.nm 3) .no (.idx (.tmp (.bi .sorted (.var 3))) (.int 1)))))) .nil)
theorem ck_middle_of : cSs 200 ⟨n_middle_of, defScope (top 14), defScope (top 14), fs.take 9, ioIx [false, false, false]⟩ il_middle_of (defBody (top 14)) = true := by decide +kernel
theorem sc_middle_of : FnScope n_middle_of p_middle_of (defScope (top 14)) := ⟨rfl, rfl, rfl, by decide +kernel, rfl, by decide +kernel, by decide +kernel⟩
/-- 10: things_of 0=sheets 1=lines 2=things 3=one 4=two 5=three -/
def n_things_of : List Str := ["sheets", "lines", "things", "one", "two", "three"]
def p_things_of : List Str := ["sheets", "lines"]
def il_things_of : Ss := (.cons (.asg (.nm 2) (.bi .list (.var 0))) (.cons (.forr (.tp [(.nm 3), (.nm 4), (.nm 5)]) (.seq (.var 1)) (.cons (.app 2 (.call 9 (.cons (.idx (.var 2) (.cp 3)) (.cons (.idx (.var 2) (.cp 4)) (.cons (.idx (.var 2) (.cp 5)) .nil))))) (.cons (.kill [3, 4, 5]) .nil))) (.cons (.ret (.take 2)) .nil)))
theorem ck_things_of : cSs 200 ⟨n_things_of, defScope (top 16), defScope (top 16), fs.take 10, ioIx [false, false]⟩ il_things_of (defBody (top 16)) = true := by decide +kernel
theorem sc_things_of : FnScope n_things_of p_things_of (defScope (top 16)) := ⟨rfl, rfl, rfl, by decide +kernel, rfl, by decide +kernel, by decide +kernel⟩
/-- 11: made_by 0=sheets 1=recipe 2=lines 3=last -/
def n_made_by : List Str := ["sheets", "recipe", "lines", "last"]
def p_made_by : List Str := ["sheets", "recipe"]
def il_made_by : Ss := (.cons (.asg (.tp [(.nm 2), (.nm 3)]) (.cp 1)) (.cons (.ret (.idx (.tmp (.call 10 (.cons (.cp 0) (.cons (.cp 2) .nil)))) (.cp 3))) .nil))
theorem ck_made_by : cSs 200 ⟨n_made_by, defScope (top 17), defScope (top 17), fs.take 11, ioIx [false, false]⟩ il_made_by (defBody (top 17)) = true := by decide +kernel
theorem sc_made_by : FnScope n_made_by p_made_by (defScope (top 17)) := ⟨rfl, rfl, rfl, by decide +kernel, rfl, by decide +kernel, by decide +kernel⟩
/-- 12: is_recipe 0=many 1=thing 2=at 3=line 4=number -/
def n_is_recipe : List Str := ["many", "thing", "at", "line", "number"]
def p_is_recipe : List Str := ["many", "thing"]
def il_is_recipe : Ss := (.cons (.iff (.or (.not (.val (.tmp (.call 2 (.cons (.cp 1) (.cons (.int 2) .nil)))))) (.not (.val (.tmp (.isi (.tmp (.idx (.var 1) (.int 0))) .tuple))))) (.cons (.ret (.bl false)) .nil) .nil) (.cons (.forr (.tp [(.nm 2), (.nm 3)]) (.enum (.tmp (.idx (.var 1) (.int 0)))) (.cons (.iff (.or (.not (.val (.tmp (.call 2 (.cons (.cp 3) (.cons (.int 3) .nil)))))) (.not (.val (.tmp (.bi .all (.tmp (.lc [4] (.seq (.var 3)) (.nm 4) .no (.call 1 (.cons (.cp 4) (.cons (.int 0) (.cons (.op .sub (.op .add (.cp 0) (.cp 2)) (.int 1)) .nil))))))))))) (.cons (.ret (.bl false)) .nil) .nil) (.cons (.kill [2, 3]) .nil))) (.cons (.ret (.call 1 (.cons (.idx (.var 1) (.int 1)) (.cons (.int 0) (.cons (.op .sub (.op .add (.cp 0) (.bi .len (.tmp (.idx (.var 1) (.int 0))))) (.int 1)) .nil))))) .nil)))
theorem ck_is_recipe : cSs 200 ⟨n_is_recipe, defScope (top 18), defScope (top 18), fs.take 12, ioIx [false, false]⟩ il_is_recipe (defBody (top 18)) = true := by decide +kernel
theorem sc_is_recipe : FnScope n_is_recipe p_is_recipe (defScope (top 18)) := ⟨rfl, rfl, rfl, by decide +kernel, rfl, by decide +kernel, by decide +kernel⟩
/-- 13: makes 0=sheets 1=sheet 2=thing -/
def n_makes : List Str := ["sheets", "sheet", "thing"]
def p_makes : List Str := ["sheets", "sheet", "thing"]
def il_makes : Ss := (.cons (.ret (.and (.call 12 (.cons (.bi .len (.var 0)) (.cons (.cp 2) .nil))) (.cmp .eq (.tmp (.call 11 (.cons (.cp 0) (.cons (.cp 2) .nil)))) (.var 1)))) .nil)
theorem ck_makes : cSs 200 ⟨n_makes, defScope (top 19), defScope (top 19), fs.take 13, ioIx [false, false, false]⟩ il_makes (defBody (top 19)) = true := by decide +kernel
theorem sc_makes : FnScope n_makes p_makes (defScope (top 19)) := ⟨rfl, rfl, rfl, by decide +kernel, rfl, by decide +kernel, by decide +kernel⟩
/-- 14: seen_together 0=sheets 1=one 2=other 3=number 4=sheet -/
def n_seen_together : List Str := ["sheets", "one", "other", "number", "sheet"]
def p_seen_together : List Str := ["sheets", "one", "other"]
def il_seen_together : Ss := (.cons (.forr (.tp [(.nm 3), (.nm 4)]) (.enum (.var 0)) (.cons (.iff (.and (.val (.tmp (.call 4 (.cons (.cp 1) (.cons (.cp 4) .nil))))) (.val (.tmp (.call 4 (.cons (.cp 2) (.cons (.cp 4) .nil)))))) (.cons (.ret (.cp 3)) .nil) .nil) (.cons (.kill [3, 4]) .nil))) (.cons (.ret .non) .nil))
theorem ck_seen_together : cSs 200 ⟨n_seen_together, defScope (top 21), defScope (top 21), fs.take 14, ioIx [false, false, false]⟩ il_seen_together (defBody (top 21)) = true := by decide +kernel
theorem sc_seen_together : FnScope n_seen_together p_seen_together (defScope (top 21)) := ⟨rfl, rfl, rfl, by decide +kernel, rfl, by decide +kernel, by decide +kernel⟩
/-- 15: all_sayings 0=fields 1=sheet 2=sayings 3=number 4=answer -/
def n_all_sayings : List Str := ["fields", "sheet", "sayings", "number", "answer"]
def p_all_sayings : List Str := ["fields", "sheet"]
def il_all_sayings : Ss := (.cons (.asg (.nm 2) (.lst .nil)) (.cons (.forr (.tp [(.nm 3), (.nm 4)]) (.enum (.var 1)) (.cons (.ext 2 (.tmp (.call 5 (.cons (.cp 0) (.cons (.cp 3) (.cons (.cp 4) .nil)))))) (.cons (.kill [3, 4]) .nil))) (.cons (.ret (.take 2)) .nil)))
theorem ck_all_sayings : cSs 200 ⟨n_all_sayings, defScope (top 22), defScope (top 22), fs.take 15, ioIx [false, false]⟩ il_all_sayings (defBody (top 22)) = true := by decide +kernel
theorem sc_all_sayings : FnScope n_all_sayings p_all_sayings (defScope (top 22)) := ⟨rfl, rfl, rfl, by decide +kernel, rfl, by decide +kernel, by decide +kernel⟩
/-- 16: unseen_two 0=fields 1=sheets 2=sheet 3=sayings 4=at 5=one 6=other -/
def n_unseen_two : List Str := ["fields", "sheets", "sheet", "sayings", "at", "one", "other"]
def p_unseen_two : List Str := ["fields", "sheets", "sheet"]
def il_unseen_two : Ss := (.cons (.asg (.nm 3) (.call 15 (.cons (.cp 0) (.cons (.cp 2) .nil)))) (.cons (.frz 3) (.cons (.forr (.tp [(.nm 4), (.nm 5)]) (.enum (.var 3)) (.cons (.forr (.nm 6) (.seq (.tmp (.sl (.var 3) (.so (.cp 4)) .no))) (.cons (.iff (.cmp .is (.tmp (.call 14 (.cons (.cp 1) (.cons (.cp 5) (.cons (.cp 6) .nil))))) (.tmp .non)) (.cons (.ret (.tup (.cons (.cp 5) (.cons (.cp 6) .nil)))) .nil) .nil) (.cons (.kill [6]) .nil))) (.cons (.kill [4, 5, 6]) .nil))) (.cons (.ret .non) .nil))))
theorem ck_unseen_two : cSs 200 ⟨n_unseen_two, defScope (top 23), defScope (top 23), fs.take 16, ioIx [false, false, false]⟩ il_unseen_two (defBody (top 23)) = true := by decide +kernel
theorem sc_unseen_two : FnScope n_unseen_two p_unseen_two (defScope (top 23)) := ⟨rfl, rfl, rfl, by decide +kernel, rfl, by decide +kernel, by decide +kernel⟩
/-- 17: recipe_for 0=fields 1=sheets 2=sheet 3=sayings 4=lines 5=row 6=saying 7=at 8=made 9=place -/
def n_recipe_for : List Str := ["fields", "sheets", "sheet", "sayings", "lines", "row", "saying", "at", "made", "place"]
def p_recipe_for : List Str := ["fields", "sheets", "sheet"]
def il_recipe_for : Ss := (.cons (.asg (.nm 3) (.call 15 (.cons (.cp 0) (.cons (.cp 2) .nil)))) (.cons (.frz 3) (.cons (.iff (.not (.val (.var 3))) (.cons (.ret (.tup (.cons (.tup .nil) (.cons (.int 0) .nil)))) .nil) .nil) (.cons (.asg (.nm 4) (.lst .nil)) (.cons (.asg (.nm 5) (.lc [6] (.seq (.var 3)) (.nm 6) .no (.call 14 (.cons (.cp 1) (.cons (.idx (.var 3) (.int 0)) (.cons (.cp 6) .nil)))))) (.cons (.forr (.nm 7) (.rng2 (.int 1) (.bi .len (.var 3))) (.cons (.asg (.nm 8) (.bi .list (.var 5))) (.cons (.forr (.nm 9) (.rng2 (.cp 7) (.bi .len (.var 3))) (.cons (.app 4 (.tup (.cons (.idx (.var 5) (.cp 7)) (.cons (.idx (.var 5) (.cp 9)) (.cons (.call 14 (.cons (.cp 1) (.cons (.idx (.var 3) (.cp 7)) (.cons (.idx (.var 3) (.cp 9)) .nil)))) .nil))))) (.cons (.setIx 8 (.cp 9) (.op .sub (.op .add (.bi .len (.var 1)) (.bi .len (.var 4))) (.int 1))) (.cons (.kill [9]) .nil)))) (.cons (.asg (.nm 5) (.take 8)) (.cons (.kill [7, 8, 9]) .nil))))) (.cons (.ret (.tup (.cons (.bi .tuple (.var 4)) (.cons (.idx (.var 5) (.neg (.int 1))) .nil)))) .nil)))))))
theorem ck_recipe_for : cSs 200 ⟨n_recipe_for, defScope (top 25), defScope (top 25), fs.take 17, ioIx [false, false, false]⟩ il_recipe_for (defBody (top 25)) = true := by decide +kernel
theorem sc_recipe_for : FnScope n_recipe_for p_recipe_for (defScope (top 25)) := ⟨rfl, rfl, rfl, by decide +kernel, rfl, by decide +kernel, by decide +kernel⟩
/-- 18: hull_of 0=fields 1=sheets 2=sheet 3=two -/
def n_hull_of : List Str := ["fields", "sheets", "sheet", "two"]
def p_hull_of : List Str := ["fields", "sheets", "sheet"]
def il_hull_of : Ss := (.cons (.asg (.nm 3) (.call 16 (.cons (.cp 0) (.cons (.cp 1) (.cons (.cp 2) .nil))))) (.cons (.iff (.cmp .isn (.var 3) (.tmp .non)) (.cons (.ret (.tup (.cons (.str "out") (.cons (.idx (.var 3) (.int 0)) (.cons (.idx (.var 3) (.int 1)) .nil))))) .nil) .nil) (.cons (.ret (.tup (.cons (.str "in") (.cons (.call 17 (.cons (.cp 0) (.cons (.cp 1) (.cons (.cp 2) .nil)))) .nil)))) .nil)))
theorem ck_hull_of : cSs 200 ⟨n_hull_of, defScope (top 26), defScope (top 26), fs.take 18, ioIx [false, false, false]⟩ il_hull_of (defBody (top 26)) = true := by decide +kernel
theorem sc_hull_of : FnScope n_hull_of p_hull_of (defScope (top 26)) := ⟨rfl, rfl, rfl, by decide +kernel, rfl, by decide +kernel, by decide +kernel⟩
/-- 19: are_unseen 0=fields 1=sheets 2=sheet 3=thing 4=saying 5=sayings -/
def n_are_unseen : List Str := ["fields", "sheets", "sheet", "thing", "saying", "sayings"]
def p_are_unseen : List Str := ["fields", "sheets", "sheet", "thing"]
def il_are_unseen : Ss := (.cons (.iff (.not (.val (.tmp (.bi .all (.tmp (.lc [4] (.seq (.var 3)) (.nm 4) .no (.call 8 (.cons (.cp 0) (.cons (.cp 4) .nil))))))))) (.cons (.ret (.bl false)) .nil) .nil) (.cons (.asg (.nm 5) (.call 15 (.cons (.cp 0) (.cons (.cp 2) .nil)))) (.cons (.ret (.and (.bi .all (.tmp (.lc [4] (.seq (.var 3)) (.nm 4) .no (.cmp .inn (.var 4) (.var 5))))) (.cmp .is (.tmp (.call 14 (.cons (.cp 1) (.cons (.idx (.var 3) (.int 0)) (.cons (.idx (.var 3) (.int 1)) .nil))))) (.tmp .non)))) .nil)))
theorem ck_are_unseen : cSs 200 ⟨n_are_unseen, defScope (top 27), defScope (top 27), fs.take 19, ioIx [false, false, false, false]⟩ il_are_unseen (defBody (top 27)) = true := by decide +kernel
theorem sc_are_unseen : FnScope n_are_unseen p_are_unseen (defScope (top 27)) := ⟨rfl, rfl, rfl, by decide +kernel, rfl, by decide +kernel, by decide +kernel⟩
/-- 20: is_hull 0=fields 1=sheets 2=sheet 3=thing -/
def n_is_hull : List Str := ["fields", "sheets", "sheet", "thing"]
def p_is_hull : List Str := ["fields", "sheets", "sheet", "thing"]
def il_is_hull : Ss := (.cons (.iff (.val (.tmp (.call 2 (.cons (.cp 3) (.cons (.int 2) .nil))))) (.cons (.ret (.and (.cmp .eq (.tmp (.idx (.var 3) (.int 0))) (.tmp (.str "in"))) (.call 13 (.cons (.cp 1) (.cons (.cp 2) (.cons (.idx (.var 3) (.int 1)) .nil)))))) .nil) .nil) (.cons (.ret (.and (.call 2 (.cons (.cp 3) (.cons (.int 3) .nil))) (.and (.cmp .eq (.tmp (.idx (.var 3) (.int 0))) (.tmp (.str "out"))) (.call 19 (.cons (.cp 0) (.cons (.cp 1) (.cons (.cp 2) (.cons (.sl (.var 3) (.so (.int 1)) .no) .nil)))))))) .nil))
theorem ck_is_hull : cSs 200 ⟨n_is_hull, defScope (top 28), defScope (top 28), fs.take 20, ioIx [false, false, false, false]⟩ il_is_hull (defBody (top 28)) = true := by decide +kernel
theorem sc_is_hull : FnScope n_is_hull p_is_hull (defScope (top 28)) := ⟨rfl, rfl, rfl, by decide +kernel, rfl, by decide +kernel, by decide +kernel⟩
/-- 21: _law_cells 0=script 1=cells 2=cell 3=rest 4=mixed 5=lap 6=state -/
def n__law_cells : List Str := ["script", "cells", "cell", "rest", "mixed", "lap", "state"]
def p__law_cells : List Str := ["script"]
def il__law_cells : Ss := (.cons (.asg (.nm 1) (.lst .nil)) (.cons (.forr (.nm 2) (.seq (.tmp (.sl (.var 0) .no (.so (.int 63))))) (.cons (.asg (.nm 3) (.op .add (.op .mul (.int 3) (.bi .abs (.var 2))) (.bi .int (.tmp (.cmp .lt (.var 2) (.tmp (.int 0))))))) (.cons (.iff (.cmp .lt (.var 3) (.tmp (.op .pow (.int 10) (.int 18)))) (.cons (.asg (.nm 4) (.op .mod (.op .add (.op .add (.op .mul (.cp 3) (.int 69621)) (.op .mul (.int 5003) (.bi .len (.var 1)))) (.int 31)) (.int 2147483647))) (.cons (.app 1 (.op .mod (.cp 4) (.int 10007))) (.cons (.asg (.nm 4) (.op .mod (.op .add (.op .add (.op .mul (.cp 4) (.int 40014)) (.op .mul (.int 11) (.cp 3))) (.int 7)) (.int 2147483563))) (.cons (.app 1 (.op .mod (.op .fdiv (.cp 4) (.int 19)) (.int 10007))) .nil)))) (.cons (.forr (.nm 5) (.rng1 (.int 70)) (.cons (.iff (.cmp .gt (.var 3) (.tmp (.int 0))) (.cons (.app 1 (.op .mod (.cp 3) (.int 10007))) (.cons (.asg (.nm 3) (.op .fdiv (.cp 3) (.int 10007))) .nil)) .nil) (.cons (.kill [5]) .nil))) .nil)) (.cons (.kill [3, 4, 5]) (.cons (.kill [2, 3, 4, 5]) .nil))))) (.cons (.asg (.nm 6) (.int 52711)) (.cons (.kill [2]) (.cons (.forB (.nm 2) 1 (.cons (.asg (.nm 6) (.op .mod (.op .add (.op .mul (.cp 6) (.int 47)) (.cp 2)) (.int 2147483563))) (.cons (.kill [2]) .nil))) (.cons (.kill [5]) (.cons (.forr (.nm 5) (.rng1 (.int 900)) (.cons (.asg (.nm 6) (.op .mod (.op .add (.op .mul (.cp 6) (.int 40692)) (.int 3571)) (.int 2147483399))) (.cons (.app 1 (.op .mod (.op .fdiv (.cp 6) (.int 128)) (.int 10007))) (.cons (.kill [5]) .nil)))) (.cons (.ret (.take 1)) .nil))))))))
theorem ck__law_cells : cSs 200 ⟨n__law_cells, defScope (top 30), defScope (top 30), fs.take 21, ioIx [false]⟩ il__law_cells (defBody (top 30)) = true := by decide +kernel
theorem sc__law_cells : FnScope n__law_cells p__law_cells (defScope (top 30)) := ⟨rfl, rfl, rfl, by decide +kernel, rfl, by decide +kernel, by decide +kernel⟩
/-- 22: _law_pick 0=cells 1=at 2=many -/
def n__law_pick : List Str := ["cells", "at", "many"]
def p__law_pick : List Str := ["cells", "at", "many"]
def il__law_pick : Ss := (.cons (.ret (.op .mod (.bi .int (.tmp (.idx (.var 0) (.op .mod (.cp 1) (.bi .len (.var 0)))))) (.cp 2))) .nil)
theorem ck__law_pick : cSs 200 ⟨n__law_pick, defScope (top 31), defScope (top 31), fs.take 22, ioIx [false, false, false]⟩ il__law_pick (defBody (top 31)) = true := by decide +kernel
theorem sc__law_pick : FnScope n__law_pick p__law_pick (defScope (top 31)) := ⟨rfl, rfl, rfl, by decide +kernel, rfl, by decide +kernel, by decide +kernel⟩
/-- 23: _law_fields 0=cells 1=at 2=sizes 3=letters 4=first 5=step 6=unit 7=fields 8=k 9=code 10=low -/
def n__law_fields : List Str := ["cells", "at", "sizes", "letters", "first", "step", "unit", "fields", "k", "code", "low"]
def p__law_fields : List Str := ["cells", "at", "sizes"]
def il__law_fields : Ss := (.cons (.asg (.nm 3) (.str "tzwsvruqpmnlkjhgxfdycb")) (.cons (.asg (.nm 4) (.call 22 (.cons (.cp 0) (.cons (.cp 1) (.cons (.int 97) .nil))))) (.cons (.asg (.nm 5) (.op .add (.int 1) (.call 22 (.cons (.cp 0) (.cons (.op .add (.cp 1) (.int 1)) (.cons (.int 96) .nil)))))) (.cons (.asg (.nm 6) (.int 1)) (.cons (.iff (.cmp .eq (.tmp (.call 22 (.cons (.cp 0) (.cons (.op .add (.cp 1) (.int 2)) (.cons (.int 3) .nil))))) (.tmp (.int 0))) (.cons (.asg (.nm 6) (.int 99998)) .nil) .nil) (.cons (.asg (.nm 7) (.lst .nil)) (.cons (.forr (.nm 8) (.rng1 (.bi .len (.var 2))) (.cons (.asg (.nm 9) (.op .mod (.op .add (.cp 4) (.op .mul (.cp 5) (.cp 8))) (.int 97))) (.cons (.asg (.nm 10) (.op .mul (.cp 6) (.op .sub (.call 22 (.cons (.cp 0) (.cons (.op .add (.op .add (.cp 1) (.int 3)) (.cp 8)) (.cons (.int 21) .nil)))) (.int 10)))) (.cons (.app 7 (.tup (.cons (.op .add (.op .add (.idx (.var 3) (.op .mod (.cp 9) (.int 22))) (.bi .str (.var 9))) (.sl (.tmp (.str "aeiou")) .no (.so (.op .mod (.cp 9) (.int 6))))) (.cons (.cp 10) (.cons (.op .sub (.op .add (.cp 10) (.idx (.var 2) (.cp 8))) (.int 1)) .nil))))) (.cons (.kill [8, 9, 10]) .nil))))) (.cons (.ret (.bi .tuple (.var 7))) .nil))))))))
theorem ck__law_fields : cSs 200 ⟨n__law_fields, defScope (top 32), defScope (top 32), fs.take 23, ioIx [false, false, false]⟩ il__law_fields (defBody (top 32)) = true := by decide +kernel
theorem sc__law_fields : FnScope n__law_fields p__law_fields (defScope (top 32)) := ⟨rfl, rfl, rfl, by decide +kernel, rfl, by decide +kernel, by decide +kernel⟩
/-- 24: _law_same 0=actual 1=due 2=told 3=number -/
def n__law_same : List Str := ["actual", "due", "told", "number"]
def p__law_same : List Str := ["actual", "due"]
def il__law_same : Ss := (.cons (.iff (.or (.not (.val (.tmp (.isi (.var 0) .tuple)))) (.cmp .ne (.tmp (.bi .len (.var 0))) (.tmp (.bi .len (.var 1))))) (.cons (.ret (.bl false)) .nil) .nil) (.cons (.forr (.tp [(.nm 2), (.nm 3)]) (.zip2 (.var 0) (.var 1)) (.cons (.iff (.or (.not (.val (.tmp (.isi (.var 2) .int)))) (.or (.val (.tmp (.isi (.var 2) .bool))) (.cmp .ne (.var 2) (.var 3)))) (.cons (.ret (.bl false)) .nil) .nil) (.cons (.kill [2, 3]) .nil))) (.cons (.ret (.bl true)) .nil)))
theorem ck__law_same : cSs 200 ⟨n__law_same, defScope (top 37), defScope (top 37), fs.take 24, ioIx [false, false]⟩ il__law_same (defBody (top 37)) = true := by decide +kernel
theorem sc__law_same : FnScope n__law_same p__law_same (defScope (top 37)) := ⟨rfl, rfl, rfl, by decide +kernel, rfl, by decide +kernel, by decide +kernel⟩
/-- 25: _law_middle 0=one 1=two 2=three 3=a 4=b 5=c -/
def n__law_middle : List Str := ["one", "two", "three", "a", "b", "c"]
def p__law_middle : List Str := ["one", "two", "three"]
def il__law_middle : Ss := (.cons (.ret (.bi .tuple (.tmp (.lc [3, 4, 5] (.zip3 (.var 0) (.var 1) (.var 2)) (.tp [(.nm 3), (.nm 4), (.nm 5)]) .no (.idx (.tmp (.bi .sorted (.tmp (.lst (.cons (.cp 3) (.cons (.cp 4) (.cons (.cp 5) .nil))))))) (.int 1)))))) .nil)
theorem ck__law_middle : cSs 200 ⟨n__law_middle, defScope (top 33), defScope (top 33), fs.take 25, ioIx [false, false, false]⟩ il__law_middle (defBody (top 33)) = true := by decide +kernel
theorem sc__law_middle : FnScope n__law_middle p__law_middle (defScope (top 33)) := ⟨rfl, rfl, rfl, by decide +kernel, rfl, by decide +kernel, by decide +kernel⟩
/-- 26: _law_between 0=cells 1=at 2=field 3=end -/
def n__law_between : List Str := ["cells", "at", "field", "end"]
def p__law_between : List Str := ["cells", "at", "field", "end"]
def il__law_between : Ss := (.cons (.iff (.cmp .eq (.var 3) (.tmp (.idx (.var 2) (.int 1)))) (.cons (.ret (.op .add (.op .add (.idx (.var 2) (.int 1)) (.int 1)) (.call 22 (.cons (.cp 0) (.cons (.cp 1) (.cons (.op .sub (.idx (.var 2) (.int 2)) (.idx (.var 2) (.int 1))) .nil)))))) .nil) .nil) (.cons (.ret (.op .add (.idx (.var 2) (.int 1)) (.call 22 (.cons (.cp 0) (.cons (.cp 1) (.cons (.op .sub (.idx (.var 2) (.int 2)) (.idx (.var 2) (.int 1))) .nil)))))) .nil))
theorem ck__law_between : cSs 200 ⟨n__law_between, defScope (top 41), defScope (top 41), fs.take 26, ioIx [false, false, false, false]⟩ il__law_between (defBody (top 41)) = true := by decide +kernel
theorem sc__law_between : FnScope n__law_between p__law_between (defScope (top 41)) := ⟨rfl, rfl, rfl, by decide +kernel, rfl, by decide +kernel, by decide +kernel⟩
/-- 27: _law_sayings 0=fields 1=sheet 2=found 3=k -/
def n__law_sayings : List Str := ["fields", "sheet", "found", "k"]
def p__law_sayings : List Str := ["fields", "sheet"]
def il__law_sayings : Ss := (.cons (.asg (.nm 2) (.lst .nil)) (.cons (.forr (.nm 3) (.rng1 (.bi .len (.var 0))) (.cons (.iff (.cmp .lt (.tmp (.idx (.var 1) (.cp 3))) (.tmp (.idx (.tmp (.idx (.var 0) (.cp 3))) (.int 2)))) (.cons (.app 2 (.tup (.cons (.cp 3) (.cons (.neg (.int 1)) (.cons (.idx (.var 1) (.cp 3)) .nil))))) .nil) .nil) (.cons (.iff (.cmp .gt (.tmp (.idx (.var 1) (.cp 3))) (.tmp (.idx (.tmp (.idx (.var 0) (.cp 3))) (.int 1)))) (.cons (.app 2 (.tup (.cons (.cp 3) (.cons (.int 1) (.cons (.idx (.var 1) (.cp 3)) .nil))))) .nil) .nil) (.cons (.kill [3]) .nil)))) (.cons (.ret (.take 2)) .nil)))
theorem ck__law_sayings : cSs 200 ⟨n__law_sayings, defScope (top 34), defScope (top 34), fs.take 27, ioIx [false, false]⟩ il__law_sayings (defBody (top 34)) = true := by decide +kernel
theorem sc__law_sayings : FnScope n__law_sayings p__law_sayings (defScope (top 34)) := ⟨rfl, rfl, rfl, by decide +kernel, rfl, by decide +kernel, by decide +kernel⟩
/-- 28: _law_holds 0=saying 1=sheet -/
def n__law_holds : List Str := ["saying", "sheet"]
def p__law_holds : List Str := ["saying", "sheet"]
def il__law_holds : Ss := (.cons (.ret (.cmp .ge (.tmp (.op .mul (.idx (.var 0) (.int 1)) (.idx (.var 1) (.idx (.var 0) (.int 0))))) (.tmp (.op .mul (.idx (.var 0) (.int 1)) (.idx (.var 0) (.int 2)))))) .nil)
theorem ck__law_holds : cSs 200 ⟨n__law_holds, defScope (top 35), defScope (top 35), fs.take 28, ioIx [false, false]⟩ il__law_holds (defBody (top 35)) = true := by decide +kernel
theorem sc__law_holds : FnScope n__law_holds p__law_holds (defScope (top 35)) := ⟨rfl, rfl, rfl, by decide +kernel, rfl, by decide +kernel, by decide +kernel⟩
/-- 29: _law_unseen 0=sheets 1=sayings 2=masks 3=saying 4=mask 5=k 6=found 7=j -/
def n__law_unseen : List Str := ["sheets", "sayings", "masks", "saying", "mask", "k", "found", "j"]
def p__law_unseen : List Str := ["sheets", "sayings"]
def il__law_unseen : Ss := (.cons (.asg (.nm 2) (.lst .nil)) (.cons (.forr (.nm 3) (.seq (.var 1)) (.cons (.asg (.nm 4) (.int 0)) (.cons (.forr (.nm 5) (.rng1 (.bi .len (.var 0))) (.cons (.iff (.val (.tmp (.call 28 (.cons (.cp 3) (.cons (.idx (.var 0) (.cp 5)) .nil))))) (.cons (.asg (.nm 4) (.op .add (.cp 4) (.op .shl (.int 1) (.cp 5)))) .nil) .nil) (.cons (.kill [5]) .nil))) (.cons (.app 2 (.cp 4)) (.cons (.kill [3, 4, 5]) .nil))))) (.cons (.asg (.nm 6) (.lst .nil)) (.cons (.kill [5]) (.cons (.forr (.nm 5) (.rng1 (.bi .len (.var 1))) (.cons (.forr (.nm 7) (.rng1 (.op .add (.cp 5) (.int 1))) (.cons (.iff (.cmp .eq (.tmp (.op .band (.idx (.var 2) (.cp 7)) (.idx (.var 2) (.cp 5)))) (.tmp (.int 0))) (.cons (.app 6 (.tup (.cons (.idx (.var 1) (.cp 7)) (.cons (.idx (.var 1) (.cp 5)) .nil)))) .nil) .nil) (.cons (.kill [7]) .nil))) (.cons (.kill [5, 7]) .nil))) (.cons (.ret (.take 6)) .nil))))))
theorem ck__law_unseen : cSs 200 ⟨n__law_unseen, defScope (top 36), defScope (top 36), fs.take 29, ioIx [false, false]⟩ il__law_unseen (defBody (top 36)) = true := by decide +kernel
theorem sc__law_unseen : FnScope n__law_unseen p__law_unseen (defScope (top 36)) := ⟨rfl, rfl, rfl, by decide +kernel, rfl, by decide +kernel, by decide +kernel⟩
/-- 30: _law_run 0=sheets 1=recipe 2=things 3=line 4=number 5=last -/
def n__law_run : List Str := ["sheets", "recipe", "things", "line", "number", "last"]
def p__law_run : List Str := ["sheets", "recipe"]
def il__law_run : Ss := (.cons (.iff (.or (.not (.val (.tmp (.isi (.var 1) .tuple)))) (.or (.cmp .ne (.tmp (.bi .len (.var 1))) (.tmp (.int 2))) (.not (.val (.tmp (.isi (.tmp (.idx (.var 1) (.int 0))) .tuple)))))) (.cons (.ret .non) .nil) .nil) (.cons (.asg (.nm 2) (.bi .list (.var 0))) (.cons (.forr (.nm 3) (.seq (.tmp (.idx (.var 1) (.int 0)))) (.cons (.iff (.or (.not (.val (.tmp (.isi (.var 3) .tuple)))) (.cmp .ne (.tmp (.bi .len (.var 3))) (.tmp (.int 3)))) (.cons (.ret .non) .nil) .nil) (.cons (.forr (.nm 4) (.seq (.var 3)) (.cons (.iff (.or (.not (.val (.tmp (.isi (.var 4) .int)))) (.or (.val (.tmp (.isi (.var 4) .bool))) (.or (.cmp .lt (.var 4) (.tmp (.int 0))) (.cmp .ge (.var 4) (.tmp (.bi .len (.var 2))))))) (.cons (.ret .non) .nil) .nil) (.cons (.kill [4]) .nil))) (.cons (.app 2 (.call 25 (.cons (.idx (.var 2) (.idx (.var 3) (.int 0))) (.cons (.idx (.var 2) (.idx (.var 3) (.int 1))) (.cons (.idx (.var 2) (.idx (.var 3) (.int 2))) .nil))))) (.cons (.kill [3, 4]) .nil))))) (.cons (.asg (.nm 5) (.idx (.var 1) (.int 1))) (.cons (.iff (.or (.not (.val (.tmp (.isi (.var 5) .int)))) (.or (.val (.tmp (.isi (.var 5) .bool))) (.or (.cmp .lt (.var 5) (.tmp (.int 0))) (.cmp .ge (.var 5) (.tmp (.bi .len (.var 2))))))) (.cons (.ret .non) .nil) .nil) (.cons (.ret (.idx (.var 2) (.cp 5))) .nil))))))
theorem ck__law_run : cSs 200 ⟨n__law_run, defScope (top 38), defScope (top 38), fs.take 30, ioIx [false, false]⟩ il__law_run (defBody (top 38)) = true := by decide +kernel
theorem sc__law_run : FnScope n__law_run p__law_run (defScope (top 38)) := ⟨rfl, rfl, rfl, by decide +kernel, rfl, by decide +kernel, by decide +kernel⟩
/-- 31: _law_told 0=fields 1=sheets 2=sheet 3=told 4=unseen 5=one 6=other -/
def n__law_told : List Str := ["fields", "sheets", "sheet", "told", "unseen", "one", "other"]
def p__law_told : List Str := ["fields", "sheets", "sheet"]
def il__law_told : Ss := (.cons (.asg (.nm 3) (.call 18 (.cons (.cp 0) (.cons (.cp 1) (.cons (.cp 2) .nil))))) (.cons (.asg (.nm 4) (.call 29 (.cons (.cp 1) (.cons (.fz (.call 27 (.cons (.cp 0) (.cons (.cp 2) .nil)))) .nil)))) (.cons (.frz 4) (.cons (.iff (.or (.not (.val (.tmp (.isi (.var 3) .tuple)))) (.or (.cmp .ne (.tmp (.bi .len (.var 3))) (.tmp (.op .add (.int 2) (.bi .int (.tmp (.cmp .gt (.tmp (.bi .len (.var 4))) (.tmp (.int 0)))))))) (.not (.val (.tmp (.isi (.tmp (.idx (.var 3) (.int 0))) .str)))))) (.cons (.ret .non) .nil) .nil) (.cons (.iff (.not (.val (.var 4))) (.cons (.iff (.or (.cmp .ne (.tmp (.idx (.var 3) (.int 0))) (.tmp (.str "in"))) (.cmp .ne (.tmp (.call 30 (.cons (.cp 1) (.cons (.idx (.var 3) (.int 1)) .nil)))) (.var 2))) (.cons (.ret .non) .nil) .nil) (.cons (.iff (.and (.cmp .le (.tmp (.bi .len (.tmp (.idx (.tmp (.idx (.var 3) (.int 1))) (.int 0))))) (.tmp (.int 1000))) (.not (.val (.tmp (.call 24 (.cons (.call 11 (.cons (.cp 1) (.cons (.idx (.var 3) (.int 1)) .nil))) (.cons (.cp 2) .nil))))))) (.cons (.ret .non) .nil) .nil) (.cons (.ret (.cp 3)) .nil))) .nil) (.cons (.iff (.cmp .ne (.tmp (.idx (.var 3) (.int 0))) (.tmp (.str "out"))) (.cons (.ret .non) .nil) .nil) (.cons (.forr (.tp [(.nm 5), (.nm 6)]) (.seq (.var 4)) (.cons (.iff (.or (.and (.val (.tmp (.call 24 (.cons (.idx (.var 3) (.int 1)) (.cons (.cp 5) .nil))))) (.val (.tmp (.call 24 (.cons (.idx (.var 3) (.int 2)) (.cons (.cp 6) .nil)))))) (.and (.val (.tmp (.call 24 (.cons (.idx (.var 3) (.int 1)) (.cons (.cp 6) .nil))))) (.val (.tmp (.call 24 (.cons (.idx (.var 3) (.int 2)) (.cons (.cp 5) .nil))))))) (.cons (.ret (.cp 3)) .nil) .nil) (.cons (.kill [5, 6]) .nil))) (.cons (.ret .non) .nil))))))))
theorem ck__law_told : cSs 200 ⟨n__law_told, defScope (top 39), defScope (top 39), fs.take 31, ioIx [false, false, false]⟩ il__law_told (defBody (top 39)) = true := by decide +kernel
theorem sc__law_told : FnScope n__law_told p__law_told (defScope (top 39)) := ⟨rfl, rfl, rfl, by decide +kernel, rfl, by decide +kernel, by decide +kernel⟩
/-- 32: _law_both 0=fields 1=whole 2=short 3=sheet 4=one 5=other -/
def n__law_both : List Str := ["fields", "whole", "short", "sheet", "one", "other"]
def p__law_both : List Str := ["fields", "whole", "short", "sheet"]
def il__law_both : Ss := (.cons (.asg (.nm 4) (.call 31 (.cons (.cp 0) (.cons (.cp 1) (.cons (.cp 3) .nil))))) (.cons (.asg (.nm 5) (.call 31 (.cons (.cp 0) (.cons (.cp 2) (.cons (.cp 3) .nil))))) (.cons (.iff (.or (.cmp .is (.var 4) (.tmp .non)) (.or (.cmp .is (.var 5) (.tmp .non)) (.cmp .ne (.tmp (.idx (.var 4) (.int 0))) (.tmp (.str "in"))))) (.cons (.ret (.bl false)) .nil) .nil) (.cons (.iff (.or (.cmp .isn (.tmp (.call 20 (.cons (.cp 0) (.cons (.cp 1) (.cons (.cp 3) (.cons (.cp 4) .nil)))))) (.tmp (.bl true))) (.cmp .isn (.tmp (.call 20 (.cons (.cp 0) (.cons (.cp 2) (.cons (.cp 3) (.cons (.cp 5) .nil)))))) (.tmp (.bl true)))) (.cons (.ret (.bl false)) .nil) .nil) (.cons (.ret (.or (.cmp .eq (.tmp (.idx (.var 5) (.int 0))) (.tmp (.str "in"))) (.cmp .is (.tmp (.call 20 (.cons (.cp 0) (.cons (.cp 1) (.cons (.cp 3) (.cons (.cp 5) .nil)))))) (.tmp (.bl false))))) .nil)))))
theorem ck__law_both : cSs 200 ⟨n__law_both, defScope (top 40), defScope (top 40), fs.take 32, ioIx [false, false, false, false]⟩ il__law_both (defBody (top 40)) = true := by decide +kernel
theorem sc__law_both : FnScope n__law_both p__law_both (defScope (top 40)) := ⟨rfl, rfl, rfl, by decide +kernel, rfl, by decide +kernel, by decide +kernel⟩
/-- 33: _law_web 0=cells 1=count 2=many 3=fields 4=k 5=order 6=pair 7=ends 8=field 9=sheets 10=j 11=sheet 12=i 13=pairs 14=lap 15=gone 16=short 17=turn -/
def n__law_web : List Str := ["cells", "count", "many", "fields", "k", "order", "pair", "ends", "field", "sheets", "j", "sheet", "i", "pairs", "lap", "gone", "short", "turn"]
def p__law_web : List Str := ["cells"]
def il__law_web : Ss := (.cons (.asg (.nm 1) (.op .add (.int 8) (.call 22 (.cons (.cp 0) (.cons (.int 0) (.cons (.int 2) .nil)))))) (.cons (.asg (.nm 2) (.op .add (.cp 1) (.call 22 (.cons (.cp 0) (.cons (.int 1) (.cons (.int 4) .nil)))))) (.cons (.asg (.nm 3) (.call 23 (.cons (.cp 0) (.cons (.int 2) (.cons (.fz (.lc [4] (.rng1 (.cp 2)) (.nm 4) .no (.op .add (.int 2) (.call 22 (.cons (.cp 0) (.cons (.op .add (.int 17) (.cp 4)) (.cons (.int 19) .nil))))))) .nil))))) (.cons (.asg (.nm 5) (.lc [6] (.seq (.tmp (.bi .sorted (.tmp (.lc [4] (.rng1 (.cp 2)) (.nm 4) .no (.tup (.cons (.call 22 (.cons (.cp 0) (.cons (.op .add (.int 29) (.cp 4)) (.cons (.int 9973) .nil)))) (.cons (.cp 4) .nil)))))))) (.nm 6) .no (.idx (.var 6) (.int 1)))) (.cons (.asg (.nm 7) (.lc [4, 8] (.enum (.var 3)) (.tp [(.nm 4), (.nm 8)]) .no (.idx (.var 8) (.op .add (.int 1) (.call 22 (.cons (.cp 0) (.cons (.op .add (.int 41) (.cp 4)) (.cons (.int 2) .nil)))))))) (.cons (.asg (.nm 9) (.lst .nil)) (.cons (.forr (.nm 4) (.rng1 (.cp 1)) (.cons (.forr (.nm 10) (.rng1 (.cp 4)) (.cons (.asg (.nm 11) (.bi .list (.var 7))) (.cons (.forr (.nm 12) (.seq (.tmp (.sl (.var 5) .no (.so (.cp 1))))) (.cons (.iff (.and (.cmp .ne (.var 12) (.tmp (.idx (.var 5) (.cp 4)))) (.cmp .ne (.var 12) (.tmp (.idx (.var 5) (.cp 10))))) (.cons (.setIx 11 (.cp 12) (.call 26 (.cons (.cp 0) (.cons (.op .add (.op .add (.int 60) (.op .mul (.int 12) (.bi .len (.var 9)))) (.cp 12)) (.cons (.idx (.var 3) (.cp 12)) (.cons (.idx (.var 7) (.cp 12)) .nil)))))) .nil) .nil) (.cons (.kill [12]) .nil))) (.cons (.app 9 (.bi .tuple (.var 11))) (.cons (.kill [10, 11, 12]) .nil))))) (.cons (.kill [10, 11, 12]) .nil))) (.cons (.asg (.nm 13) (.bi .len (.var 9))) (.cons (.kill [11, 12]) (.cons (.forr (.nm 14) (.rng1 (.call 22 (.cons (.cp 0) (.cons (.int 53) (.cons (.op .sub (.int 41) (.cp 13)) .nil))))) (.cons (.asg (.nm 11) (.lc [4, 8] (.enum (.var 3)) (.tp [(.nm 4), (.nm 8)]) .no (.op .add (.idx (.var 8) (.int 1)) (.call 22 (.cons (.cp 0) (.cons (.op .add (.op .add (.int 500) (.op .mul (.int 12) (.cp 14))) (.cp 4)) (.cons (.op .add (.op .sub (.idx (.var 8) (.int 2)) (.idx (.var 8) (.int 1))) (.int 1)) .nil))))))) (.cons (.kill [12]) (.cons (.forr (.nm 12) (.seq (.tmp (.sl (.var 5) (.so (.int 1)) (.so (.cp 1))))) (.cons (.setIx 11 (.cp 12) (.call 26 (.cons (.cp 0) (.cons (.op .add (.op .add (.int 500) (.op .mul (.int 12) (.cp 14))) (.cp 12)) (.cons (.idx (.var 3) (.cp 12)) (.cons (.idx (.var 7) (.cp 12)) .nil)))))) (.cons (.kill [12]) .nil))) (.cons (.app 9 (.bi .tuple (.var 11))) (.cons (.kill [11, 12, 14]) .nil)))))) (.cons (.asg (.nm 15) (.call 22 (.cons (.cp 0) (.cons (.int 55) (.cons (.cp 13) .nil))))) (.cons (.asg (.nm 16) (.op .add (.sl (.var 9) .no (.so (.cp 15))) (.sl (.var 9) (.so (.op .add (.cp 15) (.int 1))) .no))) (.cons (.frz 16) (.cons (.asg (.nm 17) (.call 22 (.cons (.cp 0) (.cons (.int 54) (.cons (.bi .len (.var 16)) .nil))))) (.cons (.asg (.nm 11) (.bi .tuple (.var 7))) (.cons (.iff (.cmp .ne (.tmp (.bi .len (.tmp (.call 29 (.cons (.cp 16) (.cons (.fz (.call 27 (.cons (.cp 3) (.cons (.cp 11) .nil)))) .nil)))))) (.tmp (.int 1))) (.cons (.ret (.bl false)) .nil) .nil) (.cons (.ret (.call 32 (.cons (.cp 3) (.cons (.bi .tuple (.tmp (.op .add (.sl (.var 9) (.so (.cp 17)) .no) (.sl (.var 9) .no (.so (.cp 17)))))) (.cons (.bi .tuple (.tmp (.op .add (.sl (.var 16) (.so (.cp 17)) .no) (.sl (.var 16) .no (.so (.cp 17)))))) (.cons (.cp 11) .nil)))))) .nil)))))))))))))))))
theorem ck__law_web : cSs 200 ⟨n__law_web, defScope (top 42), defScope (top 42), fs.take 33, ioIx [false]⟩ il__law_web (defBody (top 42)) = true := by decide +kernel
theorem sc__law_web : FnScope n__law_web p__law_web (defScope (top 42)) := ⟨rfl, rfl, rfl, by decide +kernel, rfl, by decide +kernel, by decide +kernel⟩
/-- 34: _law_groups 0=cells 1=fields 2=k 3=order 4=pair 5=sheet 6=field 7=sheets 8=j 9=some 10=i 11=at 12=lap 13=gone 14=turn 15=short -/
def n__law_groups : List Str := ["cells", "fields", "k", "order", "pair", "sheet", "field", "sheets", "j", "some", "i", "at", "lap", "gone", "turn", "short"]
def p__law_groups : List Str := ["cells"]
def il__law_groups : Ss := (.cons (.asg (.nm 1) (.call 23 (.cons (.cp 0) (.cons (.int 660) (.cons (.fz (.lc [2] (.rng1 (.int 12)) (.nm 2) .no (.op .sub (.int 20) (.op .mul (.op .fdiv (.call 22 (.cons (.cp 0) (.cons (.op .add (.int 675) (.cp 2)) (.cons (.int 20) .nil)))) (.int 7)) (.call 22 (.cons (.cp 0) (.cons (.op .add (.int 675) (.cp 2)) (.cons (.int 10) .nil)))))))) .nil))))) (.cons (.asg (.nm 3) (.lc [4] (.seq (.tmp (.bi .sorted (.tmp (.lc [2] (.rng1 (.int 12)) (.nm 2) .no (.tup (.cons (.call 22 (.cons (.cp 0) (.cons (.op .add (.int 687) (.cp 2)) (.cons (.int 9967) .nil)))) (.cons (.cp 2) .nil)))))))) (.nm 4) .no (.idx (.var 4) (.int 1)))) (.cons (.asg (.nm 5) (.lc [2, 6] (.enum (.var 1)) (.tp [(.nm 2), (.nm 6)]) .no (.op .add (.idx (.var 6) (.int 1)) (.call 22 (.cons (.cp 0) (.cons (.op .add (.int 699) (.cp 2)) (.cons (.op .add (.op .sub (.idx (.var 6) (.int 2)) (.idx (.var 6) (.int 1))) (.int 1)) .nil))))))) (.cons (.asg (.nm 7) (.lst .nil)) (.cons (.kill [2]) (.cons (.forr (.nm 2) (.rng1 (.int 4)) (.cons (.forr (.nm 8) (.rng1 (.cp 2)) (.cons (.asg (.nm 9) (.lc [10, 6] (.enum (.var 1)) (.tp [(.nm 10), (.nm 6)]) .no (.op .add (.idx (.var 6) (.int 1)) (.call 22 (.cons (.cp 0) (.cons (.op .add (.op .add (.int 720) (.op .mul (.int 12) (.bi .len (.var 7)))) (.cp 10)) (.cons (.op .add (.op .sub (.idx (.var 6) (.int 2)) (.idx (.var 6) (.int 1))) (.int 1)) .nil))))))) (.cons (.forr (.nm 11) (.seq (.tmp (.op .add (.lrg (.op .mul (.int 3) (.cp 2)) (.op .add (.op .mul (.int 3) (.cp 2)) (.int 3))) (.lrg (.op .mul (.int 3) (.cp 8)) (.op .add (.op .mul (.int 3) (.cp 8)) (.int 3)))))) (.cons (.setIx 9 (.idx (.var 3) (.cp 11)) (.idx (.var 5) (.idx (.var 3) (.cp 11)))) (.cons (.kill [11]) .nil))) (.cons (.app 7 (.bi .tuple (.var 9))) (.cons (.kill [8, 9, 11]) .nil))))) (.cons (.kill [2, 8, 9, 11]) .nil))) (.cons (.kill [9]) (.cons (.forr (.nm 12) (.rng1 (.call 22 (.cons (.cp 0) (.cons (.int 711) (.cons (.int 35) .nil))))) (.cons (.asg (.nm 9) (.lc [10, 6] (.enum (.var 1)) (.tp [(.nm 10), (.nm 6)]) .no (.op .add (.idx (.var 6) (.int 1)) (.call 22 (.cons (.cp 0) (.cons (.op .add (.op .add (.int 800) (.op .mul (.int 12) (.cp 12))) (.cp 10)) (.cons (.op .add (.op .sub (.idx (.var 6) (.int 2)) (.idx (.var 6) (.int 1))) (.int 1)) .nil))))))) (.cons (.app 7 (.bi .tuple (.var 9))) (.cons (.kill [9, 12]) .nil)))) (.cons (.asg (.nm 13) (.call 22 (.cons (.cp 0) (.cons (.int 712) (.cons (.int 6) .nil))))) (.cons (.asg (.nm 14) (.call 22 (.cons (.cp 0) (.cons (.int 713) (.cons (.bi .len (.var 7)) .nil))))) (.cons (.asg (.nm 15) (.op .add (.sl (.var 7) .no (.so (.cp 13))) (.sl (.var 7) (.so (.op .add (.cp 13) (.int 1))) .no))) (.cons (.iff (.not (.val (.tmp (.call 32 (.cons (.cp 1) (.cons (.bi .tuple (.tmp (.op .add (.sl (.var 7) (.so (.cp 14)) .no) (.sl (.var 7) .no (.so (.cp 14)))))) (.cons (.bi .tuple (.tmp (.op .add (.sl (.var 15) (.so (.cp 14)) .no) (.sl (.var 15) .no (.so (.cp 14)))))) (.cons (.bi .tuple (.var 5)) .nil)))))))) (.cons (.ret (.bl false)) .nil) .nil) (.cons (.asg (.nm 11) (.call 22 (.cons (.cp 0) (.cons (.int 714) (.cons (.int 12) .nil))))) (.cons (.setIx 5 (.cp 11) (.op .add (.idx (.tmp (.idx (.var 1) (.cp 11))) (.int 1)) (.call 22 (.cons (.cp 0) (.cons (.int 715) (.cons (.op .add (.op .sub (.idx (.tmp (.idx (.var 1) (.cp 11))) (.int 2)) (.idx (.tmp (.idx (.var 1) (.cp 11))) (.int 1))) (.int 1)) .nil)))))) (.cons (.ret (.cmp .isn (.tmp (.call 31 (.cons (.cp 1) (.cons (.bi .tuple (.var 7)) (.cons (.bi .tuple (.var 5)) .nil))))) (.tmp .non))) .nil)))))))))))))))
theorem ck__law_groups : cSs 200 ⟨n__law_groups, defScope (top 43), defScope (top 43), fs.take 34, ioIx [false]⟩ il__law_groups (defBody (top 43)) = true := by decide +kernel
theorem sc__law_groups : FnScope n__law_groups p__law_groups (defScope (top 43)) := ⟨rfl, rfl, rfl, by decide +kernel, rfl, by decide +kernel, by decide +kernel⟩
/-- 35: law 0=script 1=cells -/
def n_law : List Str := ["script", "cells"]
def p_law : List Str := ["script"]
def il_law : Ss := (.cons (.asg (.nm 1) (.call 21 (.cons (.cp 0) .nil))) (.cons (.frz 1) (.cons (.ret (.and (.call 33 (.cons (.cp 1) .nil)) (.call 34 (.cons (.cp 1) .nil)))) .nil)))
theorem ck_law : cSs 200 ⟨n_law, defScope (top 44), defScope (top 44), fs.take 35, ioIx [false]⟩ il_law (defBody (top 44)) = true := by decide +kernel
theorem sc_law : FnScope n_law p_law (defScope (top 44)) := ⟨rfl, rfl, rfl, by decide +kernel, rfl, by decide +kernel, by decide +kernel⟩
end K80

end
set_option maxHeartbeats 1000000
namespace K80
open PL
open PySem (Str sizeLine)
local macro_rules | `(tactic| walk_at "pl_isf1") => `(tactic| first | with_reducible assumption | with_reducible exact isF_int | with_reducible exact isF_bl | with_reducible exact isF_str | with_reducible exact isF_non | with_reducible exact isFs_nil | with_reducible apply isFs_cons | with_reducible apply isF_tup | with_reducible apply isF_lst | with_reducible apply isFs_app | with_reducible exact fz_isF _ | with_reducible exact fzs_isF _ | with_reducible exact isFs_map (fun _ => rfl))
local macro_rules | `(tactic| walk_at "pl_isf") => `(tactic| repeat' walk_at "pl_isf1")
local macro_rules | `(tactic| walk_at "pl_vF") => `(tactic| (focus (walk_at "pl_isf"; done)))
local macro_rules | `(tactic| walk_at "pl_vL") => `(tactic| (focus (first | with_reducible assumption | (simp only [List.length_cons, List.length_nil, List.length_append]; decide) | decide)))
local macro_rules | `(tactic| walk_at "pl_vM") => `(tactic| (focus (first | with_reducible assumption | exact .inl (.inl ⟨by omega, by omega⟩) | exact .inl (.inr ⟨by omega, by omega⟩) | exact ⟨by omega, by omega, by decide⟩)))
local macro_rules | `(tactic| walk_at "pl_vD") => `(tactic| (focus (first | with_reducible assumption | omega | exact ⟨by omega, by omega⟩)))
local macro_rules | `(tactic| walk_at "pl_vR") => `(tactic| (focus (first | with_reducible assumption | exact rfl)))
local macro_rules | `(tactic| walk_at "pl_vI") => `(tactic| first | with_reducible assumption | exact rfl)
local macro_rules | `(tactic| walk_at "pl_vA") => `(tactic| (focus (simp only [argsF, Bool.and_eq_true, Bool.and_true]; repeat' (first | with_reducible apply And.intro | walk_at "pl_isf1"))))
local macro_rules | `(tactic| walk_at "pl_vc1") => `(tactic| first
  | with_reducible apply s_cons | with_reducible apply s_nil | with_reducible apply s_asg | with_reducible apply s_ret | with_reducible apply s_retN | with_reducible apply s_iff | with_reducible apply s_brk | with_reducible apply s_cnt
  | with_reducible apply s_pas | with_reducible apply s_ex | with_reducible apply s_setIx | with_reducible apply s_forr | with_reducible apply w_non | with_reducible apply w_bl | with_reducible apply w_int | with_reducible apply w_str
  | with_reducible apply w_fz | with_reducible apply w_tup | with_reducible apply w_lst | with_reducible apply w_dic0 | with_reducible apply w_op | with_reducible apply w_neg | with_reducible apply w_and | with_reducible apply w_or
  | with_reducible apply w_nott | with_reducible apply w_cmp | with_reducible apply w_chain | with_reducible apply w_ifx | with_reducible apply w_idx | with_reducible apply w_sl | with_reducible apply w_bi | with_reducible apply w_mm
  | with_reducible apply w_lrg | with_reducible apply w_isi | with_reducible apply w_lc | with_reducible apply w_nil | with_reducible apply w_cons | with_reducible apply w_tmp | with_reducible apply w_no | with_reducible apply w_so | with_reducible apply c_val
  | with_reducible apply c_and | with_reducible apply c_or | with_reducible apply c_not | with_reducible apply c_cmp | with_reducible apply c_chain | with_reducible apply oc_no | with_reducible apply oc_so | with_reducible apply i_seq
  | with_reducible apply i_rng1 | with_reducible apply i_rng2 | with_reducible apply i_enum | with_reducible apply i_zip2 | with_reducible apply i_zip3 | with_reducible apply k_bl | with_reducible apply k_int | with_reducible apply k_lookT
  | with_reducible apply k_ifT | with_reducible apply k_ifF | with_reducible apply o_addI | with_reducible apply o_sub | with_reducible apply r_ltI | with_reducible apply r_leI | with_reducible apply r_gtI | with_reducible apply r_geI
  | with_reducible apply r_eqI | with_reducible apply r_neI | with_reducible apply r_isN | with_reducible apply r_isnN | with_reducible apply r_isB | with_reducible apply r_isnB | with_reducible apply b_lenT | with_reducible apply b_lenL
  | with_reducible apply b_intI | with_reducible apply b_intB | with_reducible apply b_abs | with_reducible apply m_I | with_reducible apply l_scr | ((with_reducible apply s_kill); simp only [wipeE, List.set_cons_zero, List.set_cons_succ]) | ((with_reducible apply s_frz); exact rfl; simp only [List.set_cons_zero, List.set_cons_succ]) | ((with_reducible apply s_app); exact rfl)
  | ((with_reducible apply s_ext); exact rfl) | ((with_reducible apply s_aug); exact rfl; (walk_at "pl_isf"; done)) | ((with_reducible apply w_cp); exact rfl; walk_at "pl_vF") | ((with_reducible apply w_take); exact rfl; simp only [List.set_cons_zero, List.set_cons_succ]) | ((with_reducible apply w_var); exact rfl) | ((with_reducible apply w_call); (focus assumption); exact rfl) | ((with_reducible apply k_len); walk_at "pl_vL") | ((with_reducible apply k_tru); exact rfl)
  | ((with_reducible apply k_lookV); exact rfl) | ((with_reducible apply k_args); walk_at "pl_vA") | with_reducible apply k_ifnT | with_reducible apply k_ifnF | ((with_reducible apply b_lenI); exact rfl) | ((with_reducible apply r_inT); walk_at "pl_vR"; walk_at "pl_vR") | ((with_reducible apply r_ninT); walk_at "pl_vR"; walk_at "pl_vR") | ((with_reducible apply k_holdT); exact rfl; walk_at "pl_vF") | ((with_reducible apply k_holdO); walk_at "pl_vF"; simp only [List.set_cons_zero, List.set_cons_succ]) | ((with_reducible apply k_holdV); exact rfl; walk_at "pl_vF"; walk_at "pl_vF"; simp only [List.set_cons_zero, List.set_cons_succ]) | ((with_reducible apply k_cap); exact trivial) | ((with_reducible apply k_app); exact rfl; walk_at "pl_vL"; simp only [List.set_cons_zero, List.set_cons_succ, List.nil_append, List.cons_append]) | ((with_reducible apply k_ext); exact rfl; exact rfl; walk_at "pl_vF"; walk_at "pl_vL"; simp only [List.set_cons_zero, List.set_cons_succ, List.nil_append, List.cons_append]) | ((with_reducible apply k_io); exact rfl) | ((with_reducible apply k_idx); (focus walk_at "pl_vI"); walk_at "pl_vF") | ((with_reducible apply k_items); exact rfl; walk_at "pl_vF") | ((with_reducible apply k_bind); exact rfl; simp only [List.set_cons_zero, List.set_cons_succ]) | ((with_reducible apply ch_and); walk_at "pl_vF") | ((with_reducible apply o_mul); walk_at "pl_vM") | ((with_reducible apply o_fdiv); walk_at "pl_vD") | ((with_reducible apply o_mod); walk_at "pl_vD")
  | ((with_reducible apply o_pow); walk_at "pl_vM") | ((with_reducible apply o_addT); walk_at "pl_vF"; walk_at "pl_vF"; walk_at "pl_vL") | ((with_reducible apply o_addL); walk_at "pl_vF"; walk_at "pl_vF"; walk_at "pl_vL") | ((with_reducible apply r_eqS); walk_at "pl_vR"; walk_at "pl_vR") | ((with_reducible apply r_neS); walk_at "pl_vR"; walk_at "pl_vR") | ((with_reducible apply b_listT); walk_at "pl_vF") | ((with_reducible apply b_listL); walk_at "pl_vF") | ((with_reducible apply b_tupT); walk_at "pl_vF")
  | ((with_reducible apply b_tupL); walk_at "pl_vF") | ((with_reducible apply l_tup); walk_at "pl_vF") | ((with_reducible apply l_lst); walk_at "pl_vF"))
local macro_rules | `(tactic| walk_at "pl_vc") => `(tactic| repeat' walk_at "pl_vc1")
local macro_rules | `(tactic| walk_at "pl_vs") => `(tactic| repeat' (first | walk_at "pl_vc1" | (with_reducible refine k_ifD (fun _ => ?_) (fun _ => ?_)) | (with_reducible refine k_ifN (fun _ => ?_) (fun _ => ?_)) | (with_reducible refine k_if (fun _ => ?_) (fun _ => ?_))))
/-! k79: what the program's defs are asked for, in plain Lean. -/

/-- a saying: field, way, answer -/
abbrev Say := Int × Int × Int
abbrev Fld := Str × Int × Int
abbrev Sheet := List Int
def yT (y : Say) : T := .tup [.int y.1, .int y.2.1, .int y.2.2]
def sT (s : Sheet) : T := .tup (s.map .int)
def fldT (f : Fld) : T := .tup [.str f.1, .int f.2.1, .int f.2.2]
def fsT (fs : List Fld) : T := .tup (fs.map fldT)
def xsT (xs : List Sheet) : T := .tup (xs.map sT)
def hld (y : Say) (a : Int) : Bool := decide (y.2.1 * y.2.2 ≤ y.2.1 * a)
def way (y : Say) : Prop := y.2.1 = 1 ∨ y.2.1 = -1
def isI : T → Bool
  | .int _ => true
  | _ => false
def within (t : T) (lo hi : Int) : Bool := match t with
  | .int i => decide (lo ≤ i ∧ i ≤ hi)
  | _ => false
def tupOf (t : T) (n : Int) : Bool := match t with
  | .tup xs => decide ((xs.length : Int) = n)
  | _ => false
def P_is_integer (ts : List T) (K : T → Prop) : Prop := ∃ t, ts = [t] ∧ K (.bl (isI t))
def P_integer_within (ts : List T) (K : T → Prop) : Prop := ∃ t lo hi, ts = [t, .int lo, .int hi] ∧ K (.bl (within t lo hi))
def P_tuple_of (ts : List T) (K : T → Prop) : Prop := ∃ t n, ts = [t, .int n] ∧ K (.bl (tupOf t n))
def P_holds_at (ts : List T) (K : T → Prop) : Prop := ∃ y a, ts = [yT y, .int a] ∧ way y ∧ K (.bl (hld y a))
def P_holds_in (ts : List T) (K : T → Prop) : Prop := ∃ y s a, ts = [yT y, sT s] ∧ way y ∧ L2.atI s y.1 = some a ∧ K (.bl (hld y a))
def asay (n : Int) (f : Fld) (a : Int) : List Say := (if a < f.2.2 then [(n, -1, a)] else []) ++ (if f.2.1 < a then [(n, 1, a)] else [])
def P_answer_sayings (ts : List T) (K : T → Prop) : Prop := ∃ fs n a f, ts = [fsT fs, .int n, .int a] ∧ L2.atI fs n = some f ∧ K (.tup ((asay n f a).map yT))
def fits (f : Fld) (y : Say) : Bool := if y.2.1 = 1 then decide (f.2.1 < y.2.2 ∧ y.2.2 ≤ f.2.2) else decide (f.2.1 ≤ y.2.2 ∧ y.2.2 < f.2.2)
def P_fits_field (ts : List T) (K : T → Prop) : Prop := ∃ fs y f, ts = [fsT fs, yT y] ∧ L2.atI fs y.1 = some f ∧ K (.bl (fits f y))
def isSay (fs : List Fld) (t : T) : Bool := match t with
  | .tup [.int k, .int w, .int a] => decide (0 ≤ k) && (match fs[k.toNat]? with
    | some f => (decide (w = 1) || decide (w = -1)) && fits f (k, w, a)
    | none => false)
  | _ => false
def P_saying_fault (ts : List T) (K : T → Prop) : Prop := ∃ fs t, ts = [fsT fs, t] ∧ isF t = true ∧ ∀ v, isF v = true → isNon v = isSay fs t → K v
def P_is_saying (ts : List T) (K : T → Prop) : Prop := ∃ fs t, ts = [fsT fs, t] ∧ isF t = true ∧ K (.bl (isSay fs t))
def med (a b c : Int) : Int := max (min a b) (min (max a b) c)
def mid (a b c : Sheet) : Sheet := (a.zip (b.zip c)).map fun z => med z.1 z.2.1 z.2.2
def P_middle_of (ts : List T) (K : T → Prop) : Prop := ∃ a b c, ts = [sT a, sT b, sT c] ∧ K (sT (mid a b c))

theorem isF_yT {y : Say} : isF (yT y) = true := rfl
theorem isF_ints (s : List Int) : isFs (s.map T.int) = true := isFs_map fun _ => rfl
theorem isF_sT {s : Sheet} : isF (sT s) = true := isF_tup (isF_ints s)
theorem isF_fsT {fs : List Fld} : isF (fsT fs) = true := isF_tup (isFs_map fun _ => rfl)
theorem isFs_sT (xs : List Sheet) : isFs (xs.map sT) = true := isFs_map fun _ => isF_sT
theorem isF_xsT {xs : List Sheet} : isF (xsT xs) = true := isF_tup (isFs_sT xs)
theorem isFs_yT (ys : List Say) : isFs (ys.map yT) = true := isFs_map fun _ => rfl
local macro_rules | `(tactic| walk_at "pl_isf1") => `(tactic| first | with_reducible exact isF_yT | with_reducible exact isF_sT | with_reducible exact isF_fsT | with_reducible exact isFs_sT _ | with_reducible exact isF_xsT | with_reducible exact isFs_yT _ | with_reducible exact isF_ints _)
theorem atI_map {α β : Type} {f : α → β} {xs : List α} {i : Int} {x : α} (h : L2.atI xs i = some x) : L2.atI (xs.map f) i = some (f x) := by
  unfold L2.atI at h ⊢
  rw [List.length_map]
  obtain ⟨j, h1, h2⟩ := Option.bind_eq_some_iff.mp h
  rw [h1]
  simp [h2]
theorem ix_sT {s : Sheet} {i a : Int} (h : L2.atI s i = some a) : idxT (sT s) (.int i) = some (.int a) := atI_map h
theorem ix_fsT {fs : List Fld} {i : Int} {f : Fld} (h : L2.atI fs i = some f) : idxT (fsT fs) (.int i) = some (fldT f) := atI_map h
theorem ix_xsT {xs : List Sheet} {i : Int} {s : Sheet} (h : L2.atI xs i = some s) : idxT (xsT xs) (.int i) = some (sT s) := atI_map h

/-! k79: the program's small defs. -/
/-- what is to be shown of a def -/
def VC (Φ : Nat → Spec) (m : List Bool) (P : List T → (T → Prop) → Prop) (il : Ss) (n : Nat) : Prop :=
  ∀ ts Q, ts.length = m.length → argsM m ts = true → spF P ts Q → wpSs Φ il { nx := fun Γ => ioK m (Q .non) Γ, rt := fun t Γ => ioK m (Q t) Γ } (ent n ts)
theorem c_is_integer {t : T} {K : T → Prop} (k : K (.bl (isI t))) : P_is_integer [t] K := ⟨t, rfl, k⟩
theorem c_integer_within {t : T} {lo hi : Int} {K : T → Prop} (k : K (.bl (within t lo hi))) : P_integer_within [t, .int lo, .int hi] K := ⟨t, lo, hi, rfl, k⟩
theorem c_tuple_of {t : T} {n : Int} {K : T → Prop} (k : K (.bl (tupOf t n))) : P_tuple_of [t, .int n] K := ⟨t, n, rfl, k⟩
theorem c_holds_at {y : Say} {a : Int} {K : T → Prop} (w : way y) (k : K (.bl (hld y a))) : P_holds_at [yT y, .int a] K := ⟨y, a, rfl, w, k⟩
theorem c_holds_in {y : Say} {s : Sheet} {a : Int} {K : T → Prop} (w : way y) (h : L2.atI s y.1 = some a) (k : K (.bl (hld y a))) : P_holds_in [yT y, sT s] K := ⟨y, s, a, rfl, w, h, k⟩
theorem c_answer_sayings {fs : List Fld} {n a : Int} {f : Fld} {K : T → Prop} (h : L2.atI fs n = some f) (k : K (.tup ((asay n f a).map yT))) : P_answer_sayings [fsT fs, .int n, .int a] K := ⟨fs, n, a, f, rfl, h, k⟩
theorem c_fits_field {fs : List Fld} {y : Say} {f : Fld} {K : T → Prop} (h : L2.atI fs y.1 = some f) (k : K (.bl (fits f y))) : P_fits_field [fsT fs, yT y] K := ⟨fs, y, f, rfl, h, k⟩
theorem c_saying_fault {fs : List Fld} {t : T} {K : T → Prop} (f : isF t = true) (k : ∀ v, isF v = true → isNon v = isSay fs t → K v) : P_saying_fault [fsT fs, t] K := ⟨fs, t, rfl, f, k⟩
theorem c_is_saying {fs : List Fld} {t : T} {K : T → Prop} (f : isF t = true) (k : K (.bl (isSay fs t))) : P_is_saying [fsT fs, t] K := ⟨fs, t, rfl, f, k⟩
theorem c_middle_of {a b c : Sheet} {K : T → Prop} (k : K (sT (mid a b c))) : P_middle_of [sT a, sT b, sT c] K := ⟨a, b, c, rfl, k⟩
local macro_rules | `(tactic| walk_at "pl_vc1") => `(tactic| first | with_reducible apply c_is_integer | with_reducible apply c_integer_within | with_reducible apply c_tuple_of)
theorem isI_of {t : T} (h : isI t = true) : ∃ i, t = .int i := by cases t <;> first | exact ⟨_, rfl⟩ | cases h
theorem tupOf_of {t : T} {n : Int} (h : tupOf t n = true) : ∃ xs, t = .tup xs ∧ (xs.length : Int) = n := by
  cases t <;> first | cases h | skip
  exact ⟨_, rfl, of_decide_eq_true h⟩
section
variable {Φ : Nat → Spec}
theorem v_is_integer : VC Φ [false] P_is_integer il_is_integer 1 := by
  rintro ts Q - - ⟨t, rfl, q⟩
  show wpSs Φ il_is_integer _ [_]
  unfold il_is_integer
  walk_at "pl_vs"
  all_goals cases t <;> first | exact q | (rename_i h; exact absurd h (by decide)) | (rename_i h; cases h)
theorem v_integer_within (h0 : Φ 0 = spF P_is_integer) : VC Φ [false, false, false] P_integer_within il_integer_within 3 := by
  rintro ts Q - am ⟨t, lo, hi, rfl, q⟩
  have ft : isF t = true := by
    simp only [argsM, Bool.and_eq_true] at am
    exact am.1
  show wpSs Φ il_integer_within _ [_, _, _]
  unfold il_integer_within
  walk_at "pl_vs"
  · rename_i h
    obtain ⟨i, rfl⟩ := isI_of h
    walk_at "pl_vs"
    · rename_i h1
      have : within (.int i) lo hi = decide (i ≤ hi) := by simp [within, h1]
      rw [this] at q
      exact q
    · rename_i h1
      have : within (.int i) lo hi = false := by simp [within, h1]
      rw [this] at q
      exact q
  · rename_i h
    have : within t lo hi = false := by cases t <;> first | rfl | cases h
    rw [this] at q
    exact q
theorem v_tuple_of : VC Φ [false, false] P_tuple_of il_tuple_of 2 := by
  rintro ts Q - - ⟨t, n, rfl, q⟩
  show wpSs Φ il_tuple_of _ [_, _]
  unfold il_tuple_of
  walk_at "pl_vs"
  · rename_i h
    cases t <;> first | cases h | skip
    walk_at "pl_vs"
    exact q
  · rename_i h
    have : tupOf t n = false := by cases t <;> first | rfl | cases h
    rw [this] at q
    exact q
theorem v_holds_at : VC Φ [false, false] P_holds_at il_holds_at 2 := by
  rintro ts Q - - ⟨y, a, rfl, w, q⟩
  show wpSs Φ il_holds_at _ [some (.tup [.int y.1, .int y.2.1, .int y.2.2]), _]
  unfold il_holds_at
  have w1 : -(2 ^ 64) < y.2.1 ∧ y.2.1 < 2 ^ 64 := by rcases w with h | h <;> rw [h] <;> decide
  walk_at "pl_vs"
  exact q
theorem v_holds_in (h3 : Φ 3 = spF P_holds_at) : VC Φ [false, false] P_holds_in il_holds_in 3 := by
  rintro ts Q - - ⟨y, s, a, rfl, w, h, q⟩
  show wpSs Φ il_holds_in _ [some (yT y), _, none]
  unfold il_holds_in
  have i0 : idxT (yT y) (.int 0) = some (.int y.1) := rfl
  have i1 := ix_sT h
  walk_at "pl_vs"
  · refine c_holds_at w ?_
    walk_at "pl_vs"
    exact q
  · rename_i h
    cases h
theorem v_answer_sayings : VC Φ [false, false, false] P_answer_sayings il_answer_sayings 7 := by
  rintro ts Q - - ⟨fs, n, a, f, rfl, h, q⟩
  show wpSs Φ il_answer_sayings _ [_, _, _, none, none, none, none]
  unfold il_answer_sayings
  have i0 := ix_fsT h
  have f0 : isF (fldT f) = true := rfl
  unfold fldT at i0 f0
  walk_at "pl_vs"
  all_goals first
    | (simp_all [asay]; done)
    | (simp_all [asay]; exact q)
theorem v_fits_field : VC Φ [false, false] P_fits_field il_fits_field 8 := by
  rintro ts Q - - ⟨fs, y, f, rfl, h, q⟩
  show wpSs Φ il_fits_field _ [_, some (.tup [.int y.1, .int y.2.1, .int y.2.2]), none, none, none, none, none, none]
  unfold il_fits_field
  have i0 := ix_fsT h
  unfold fldT at i0
  unfold fits at q
  walk_at "pl_vs"
  all_goals simp_all
theorem yT_of {k w a : Int} : T.tup [.int k, .int w, .int a] = yT (k, w, a) := rfl
theorem atI_nat {α : Type} {xs : List α} {k : Int} {x : α} (h0 : 0 ≤ k) (h : xs[k.toNat]? = some x) : L2.atI xs k = some x := by
  have hl := (List.getElem?_eq_some_iff.mp h).1
  unfold L2.atI L2.ixN
  rw [if_pos h0, if_pos (by omega)]
  simpa using h
theorem v_saying_fault (h0 : Φ 0 = spF P_is_integer) (h2 : Φ 2 = spF P_tuple_of) (h6 : Φ 6 = spF P_fits_field) : VC Φ [false, false] P_saying_fault il_saying_fault 3 := by
  rintro ts Q - - ⟨fs, t, rfl, ft, q⟩
  show wpSs Φ il_saying_fault _ [_, _, none]
  unfold il_saying_fault
  -- not a tuple of three
  have bad : isSay fs t = false → Q (.str "shape") [] := fun h => q _ rfl (by rw [h]; rfl)
  walk_at "pl_vs"
  · rename_i h
    have h : tupOf t 3 = false := by simpa using h
    refine bad ?_
    unfold isSay
    split
    · simp [tupOf] at h
    · rfl
  · rename_i h
    have h : tupOf t 3 = true := by simpa using h
    obtain ⟨xs, rfl, l⟩ := tupOf_of h
    have l : xs.length = 3 := by omega
    match xs, l with
    | [a, b, c], _ =>
      have fa : isF a = true := by simp [isF, isFs] at ft; exact ft.1
      have fb : isF b = true := by simp [isF, isFs] at ft; exact ft.2.1
      have fc : isF c = true := by simp [isF, isFs] at ft; exact ft.2.2
      walk_at "pl_vs"
      refine k_lcM (fun x => .bl (isI x)) (fun x hx Kk k => ?_) ?_
      · have fx : isF x = true := by
          simp only [List.mem_cons, List.not_mem_nil, or_false] at hx
          rcases hx with rfl | rfl | rfl <;> assumption
        unfold kTurn
        simp only [wipeE, List.set_cons_zero, List.set_cons_succ]
        walk_at "pl_vs"
        exact k _ rfl
      refine b_all (blsT_map isI _) ?_
      simp only [backE, keepF, List.getD_cons_zero, List.getD_cons_succ, List.set_cons_zero, List.set_cons_succ]
      walk_at "pl_vs"
      · rename_i h
        have h : ¬ (isI a = true ∧ isI b = true ∧ isI c = true) := fun hh => by simp [hh.1, hh.2.1, hh.2.2] at h
        refine bad ?_
        unfold isSay
        split
        · rename_i heq
          injection heq with heq
          injection heq with h1 heq
          injection heq with h2 heq
          injection heq with h3 _
          subst h1 h2 h3
          exact absurd ⟨rfl, rfl, rfl⟩ h
        · rfl
      · rename_i h
        have h : isI a = true ∧ isI b = true ∧ isI c = true := by simpa using h
        obtain ⟨k, rfl⟩ := isI_of h.1
        obtain ⟨w, rfl⟩ := isI_of h.2.1
        obtain ⟨an, rfl⟩ := isI_of h.2.2
        have it : T.tup [T.int k, T.int w, T.int an] = yT (k, w, an) := rfl
        walk_at "pl_vs"
        · rename_i h0k hk
          refine q _ rfl ?_
          have hk : ¬ k.toNat < fs.length := by
            rw [List.length_map] at hk
            omega
          have e := List.getElem?_eq_none (Nat.le_of_not_lt hk)
          have : isSay fs (.tup [.int k, .int w, .int an]) = false := by
            unfold isSay
            simp only [e, Bool.and_false]
          rw [this]; rfl
        · rename_i h0k hk hw
          refine q _ rfl ?_
          have hw : ¬ (w = 1 ∨ w = -1) := by
            intro hh
            simp only [List.any_cons, List.any_nil, eqT_int, Bool.or_false] at hw
            rcases hh with rfl | rfl <;> simp at hw
          have : isSay fs (.tup [.int k, .int w, .int an]) = false := by
            unfold isSay
            simp only
            cases fs[k.toNat]? with
            | none => simp
            | some f => simp [show ¬ w = 1 from fun e => hw (.inl e), show ¬ w = -1 from fun e => hw (.inr e)]
          rw [this]; rfl
        · rename_i h0k hk hw
          have hw : w = 1 ∨ w = -1 := by
            simp only [List.any_cons, List.any_nil, eqT_int, Bool.or_false] at hw
            by_cases h1 : w = 1
            · exact .inl h1
            · by_cases h2 : w = -1
              · exact .inr h2
              · exfalso
                simp [show ¬ (1 : Int) = w from fun e => h1 e.symm, show ¬ (-1 : Int) = w from fun e => h2 e.symm] at hw
          have hk : k.toNat < fs.length := by
            rw [List.length_map] at hk
            omega
          have e := List.getElem?_eq_getElem hk
          have sv : isSay fs (.tup [.int k, .int w, .int an]) = fits fs[k.toNat] (k, w, an) := by
            unfold isSay
            simp only [h0k, decide_true, Bool.true_and, e]
            rcases hw with rfl | rfl <;> simp
          rw [it]
          refine c_fits_field (y := (k, w, an)) (atI_nat h0k e) ?_
          walk_at "pl_vs"
          · rename_i hf
            refine q _ rfl ?_
            have hf : fits fs[k.toNat] (k, w, an) = false := by simpa using hf
            rw [sv, hf]; rfl
          · rename_i hf
            refine q _ rfl ?_
            have hf : fits fs[k.toNat] (k, w, an) = true := by simpa using hf
            rw [sv, hf]; rfl
        · rename_i h0k
          refine q _ rfl ?_
          have : isSay fs (.tup [.int k, .int w, .int an]) = false := by
            unfold isSay
            simp [h0k]
          rw [this]; rfl
theorem v_is_saying (h7 : Φ 7 = spF P_saying_fault) : VC Φ [false, false] P_is_saying il_is_saying 2 := by
  rintro ts Q - - ⟨fs, t, rfl, ft, q⟩
  show wpSs Φ il_is_saying _ [_, _]
  unfold il_is_saying
  walk_at "pl_vs"
  refine c_saying_fault ft fun v fv hv => ?_
  walk_at "pl_vs"
  rw [hv]
  exact q
end

/-! k79: the middle of three sheets. -/
/-- ints sorted are sorted ints -/
theorem sort_ints (s : List Int) : (s.map T.int).mergeSort (PySem.W.dataLe false data) = (s.mergeSort fun a b => decide (a ≤ b)).map T.int := by
  symm
  apply List.map_mergeSort
  intro a _ b _
  exact (congrFun (congrFun (PySem.W.dataLe_int (fun x : Int => x)) a) b).symm
theorem sortable_ints (s : List Int) : sortable (s.map T.int) := by
  have hd : ∀ d ∈ datas (s.map T.int), ∃ i, d = .int i := by
    induction s with
    | nil => intro d h; simp [datas] at h
    | cons x xs ih =>
      intro d h
      simp only [List.map_cons, datas, List.mem_cons] at h
      rcases h with rfl | h
      · exact ⟨x, rfl⟩
      · exact ih d h
  refine ⟨fun d h d' h' => ?_, .inr fun d h => ?_, fun x h => ?_⟩
  · obtain ⟨i, rfl⟩ := hd d h
    obtain ⟨j, rfl⟩ := hd d' h'
    simp [PySem.W.alike]
  · obtain ⟨i, rfl⟩ := hd d h
    exact ⟨(by intro h; cases h), fun _ h => by cases h⟩
  · obtain ⟨i, _, rfl⟩ := List.mem_map.mp h
    rfl
theorem sorted_is {l m : List Int} (p : l.Perm m) (s : m.Pairwise fun a b => decide (a ≤ b) = true) : (l.mergeSort fun a b => decide (a ≤ b)) = m := by
  refine List.Perm.eq_of_pairwise (le := fun a b => decide (a ≤ b) = true) (fun a b _ _ h1 h2 => ?_) (List.pairwise_mergeSort (fun a b c h1 h2 => ?_) (fun a b => ?_) _) s ((List.mergeSort_perm _ _).trans p)
  all_goals simp at *
  all_goals omega
theorem sort3 (a b c : Int) : ([a, b, c].mergeSort fun a b => decide (a ≤ b))[1]? = some (med a b c) := by
  have key : ∀ x y z : Int, [a, b, c].Perm [x, y, z] → x ≤ y → y ≤ z → y = med a b c → ([a, b, c].mergeSort fun a b => decide (a ≤ b))[1]? = some (med a b c) := by
    intro x y z p h1 h2 e
    rw [sorted_is p (by simp; omega)]
    exact congrArg some e
  unfold med at key ⊢
  rcases Int.le_total a b with h1 | h1 <;> rcases Int.le_total b c with h2 | h2 <;> rcases Int.le_total a c with h3 | h3
  · exact key a b c (.refl _) h1 h2 (by omega)
  · exact key a b c (.refl _) h1 h2 (by omega)
  · exact key a c b (.cons _ (.swap _ _ _)) h3 h2 (by omega)
  · exact key c a b ((List.Perm.cons a (.swap c b [])).trans (.swap c a [b])) h3 h1 (by omega)
  · exact key b a c (.swap _ _ _) h1 h3 (by omega)
  · exact key b c a ((List.Perm.swap b a [c]).trans (.cons b (.swap c a []))) h2 h3 (by omega)
  · exact key c b a (((List.Perm.swap b a [c]).trans (.cons b (.swap c a []))).trans (.swap c b [a])) h2 h1 (by omega)
  · exact key c b a (((List.Perm.swap b a [c]).trans (.cons b (.swap c a []))).trans (.swap c b [a])) h2 h1 (by omega)
/-- what a turn over zipped sheets gives -/
def midT : T → T
  | .tup [.int a, .int b, .int c] => .int (med a b c)
  | t => t
theorem mid_map (a b c : Sheet) : (((a.map T.int).zip ((b.map T.int).zip (c.map T.int))).map fun z => T.tup [z.1, z.2.1, z.2.2]).map midT = (mid a b c).map T.int := by
  rw [List.zip_map, List.zip_map, List.map_map, List.map_map, mid, List.map_map]
  rfl
theorem zip3_mem {a b c : Sheet} {x : T} (h : x ∈ ((a.map T.int).zip ((b.map T.int).zip (c.map T.int))).map fun z => T.tup [z.1, z.2.1, z.2.2]) : ∃ i j k, x = .tup [.int i, .int j, .int k] := by
  obtain ⟨z, hz, rfl⟩ := List.mem_map.mp h
  rw [List.zip_map, List.zip_map] at hz
  obtain ⟨w, _, rfl⟩ := List.mem_map.mp hz
  exact ⟨w.1, w.2.1, w.2.2, rfl⟩
section
variable {Φ : Nat → Spec}
theorem v_middle_of : VC Φ [false, false, false] P_middle_of il_middle_of 4 := by
  rintro ts Q - - ⟨a, b, c, rfl, q⟩
  show wpSs Φ il_middle_of _ [some (.tup (a.map T.int)), some (.tup (b.map T.int)), some (.tup (c.map T.int)), none]
  unfold il_middle_of
  have fa := isF_ints a
  have fb := isF_ints b
  have fc := isF_ints c
  walk_at "pl_vs"
  refine k_lcM midT (fun x hx Kk k => ?_) ?_
  · obtain ⟨i, j, l, rfl⟩ := zip3_mem hx
    unfold kTurn
    simp only [wipeE, List.set_cons_zero, List.set_cons_succ]
    walk_at "pl_vs"
    refine b_sortT rfl (sortable_ints [i, j, l]) ?_
    refine w_int ?_
    refine k_lookT ?_
    refine k_idx (v := .int (med i j l)) ?_ rfl ?_
    · show idxT (.lst true (([i, j, l].map T.int).mergeSort _)) _ = _
      rw [sort_ints]
      have := sort3 i j l
      show L2.atI (([i, j, l].mergeSort fun a b => decide (a ≤ b)).map T.int) 1 = _
      exact atI_map (atI_nat (by decide) this)
    · walk_at "pl_vs"
      exact k _ rfl
  · rw [mid_map]
    simp only [backE, keepF, List.getD_cons_zero, List.getD_cons_succ, List.set_cons_zero, List.set_cons_succ]
    have := isF_ints (mid a b c)
    walk_at "pl_vs"
    exact q
end

/-! k79: recipes, in plain Lean. -/
/-- the told sheets and what the lines make of them -/
def thingsOf : List Sheet → List Say → Option (List Sheet)
  | xs, [] => some xs
  | xs, l :: ls => match L2.atI xs l.1, L2.atI xs l.2.1, L2.atI xs l.2.2 with
    | some a, some b, some c => thingsOf (xs ++ [mid a b c]) ls
    | _, _, _ => none
def linesT (ls : List Say) : T := .tup (ls.map yT)
def P_things_of (ts : List T) (K : T → Prop) : Prop := ∃ xs ls out, ts = [xsT xs, linesT ls] ∧ thingsOf xs ls = some out ∧ xs.length + ls.length ≤ sizeLine ∧ K (.lst true (out.map sT))
def madeBy (xs : List Sheet) (ls : List Say) (k : Int) : Option Sheet := (thingsOf xs ls).bind fun out => L2.atI out k
def P_made_by (ts : List T) (K : T → Prop) : Prop := ∃ xs ls k s, ts = [xsT xs, .tup [linesT ls, .int k]] ∧ madeBy xs ls k = some s ∧ xs.length + ls.length ≤ sizeLine ∧ K (sT s)
/-- a line of a recipe, told where n sheets are there -/
def isLine (n : Int) : T → Bool
  | .tup [a, b, c] => within a 0 (n - 1) && within b 0 (n - 1) && within c 0 (n - 1)
  | _ => false
def isLines (n : Int) : List T → Bool
  | [] => true
  | l :: ls => isLine n l && isLines (n + 1) ls
def isRec (n : Int) : T → Bool
  | .tup [.tup ls, k] => isLines n ls && within k 0 (n + ls.length - 1)
  | _ => false
def P_is_recipe (ts : List T) (K : T → Prop) : Prop := ∃ n t, ts = [.int n, t] ∧ isF t = true ∧ K (.bl (isRec n t))
theorem c_things_of {xs : List Sheet} {ls : List Say} {out : List Sheet} {K : T → Prop} (h : thingsOf xs ls = some out) (l : xs.length + ls.length ≤ sizeLine) (k : K (.lst true (out.map sT))) : P_things_of [xsT xs, linesT ls] K := ⟨xs, ls, out, rfl, h, l, k⟩
theorem c_made_by {xs : List Sheet} {ls : List Say} {i : Int} {s : Sheet} {K : T → Prop} (h : madeBy xs ls i = some s) (l : xs.length + ls.length ≤ sizeLine) (k : K (sT s)) : P_made_by [xsT xs, .tup [linesT ls, .int i]] K := ⟨xs, ls, i, s, rfl, h, l, k⟩
theorem c_is_recipe {n : Int} {t : T} {K : T → Prop} (f : isF t = true) (k : K (.bl (isRec n t))) : P_is_recipe [.int n, t] K := ⟨n, t, rfl, f, k⟩
local macro_rules | `(tactic| walk_at "pl_vc1") => `(tactic| first | with_reducible apply c_middle_of)
theorem isF_linesT {ls : List Say} : isF (linesT ls) = true := isF_tup (isFs_yT ls)
local macro_rules | `(tactic| walk_at "pl_isf1") => `(tactic| first | with_reducible exact isF_linesT)
section
variable {Φ : Nat → Spec}
theorem v_things_of (h9 : Φ 9 = spF P_middle_of) : VC Φ [false, false] P_things_of il_things_of 6 := by
  rintro ts Q - - ⟨xs, ls, out, rfl, h, l, q⟩
  show wpSs Φ il_things_of _ [some (.tup (xs.map sT)), some (.tup (ls.map yT)), none, none, none, none]
  unfold il_things_of
  walk_at "pl_vs"
  refine k_for (fun i Γ => ∃ cur, thingsOf cur (ls.drop i) = some out ∧ cur.length = xs.length + i ∧ Γ = [some (.tup (xs.map sT)), some (.tup (ls.map yT)), some (.lst true (cur.map sT)), none, none, none]) ⟨xs, h, rfl, rfl⟩ ?_ ?_
  · rintro i x Γ hx ⟨cur, hc, hl, rfl⟩ again ag
    rw [List.getElem?_map] at hx
    obtain ⟨y, hy, rfl⟩ := Option.map_eq_some_iff.mp hx
    obtain ⟨hi, e⟩ := List.getElem?_eq_some_iff.mp hy
    rw [List.drop_eq_getElem_cons hi, e] at hc
    unfold thingsOf at hc
    split at hc
    · rename_i a b c h1 h2 h3
      have i1 : idxT (.lst true (cur.map sT)) (.int y.1) = some (sT a) := atI_map h1
      have i2 : idxT (.lst true (cur.map sT)) (.int y.2.1) = some (sT b) := atI_map h2
      have i3 : idxT (.lst true (cur.map sT)) (.int y.2.2) = some (sT c) := atI_map h3
      have hl2 : (cur.map sT).length < sizeLine := by rw [List.length_map]; omega
      unfold yT
      walk_at "pl_vs"
      refine ag _ ⟨cur ++ [mid a b c], hc, by simp; omega, ?_⟩
      rw [List.map_append]
      rfl
    · cases hc
  · rintro Γ ⟨cur, hc, -, rfl⟩
    rw [List.length_map, List.drop_length] at hc
    obtain rfl : cur = out := by simpa [thingsOf] using hc
    walk_at "pl_vs"
    exact q
theorem v_made_by (h10 : Φ 10 = spF P_things_of) : VC Φ [false, false] P_made_by il_made_by 4 := by
  rintro ts Q - - ⟨xs, ls, i, s, rfl, h, l, q⟩
  show wpSs Φ il_made_by _ [_, _, none, none]
  unfold il_made_by
  obtain ⟨out, h1, h2⟩ := Option.bind_eq_some_iff.mp h
  have i1 : idxT (.lst true (out.map sT)) (.int i) = some (sT s) := atI_map h2
  walk_at "pl_vs"
  refine c_things_of h1 l ?_
  walk_at "pl_vs"
  exact q
end

/-! k79: is a thing a recipe. -/
local macro_rules | `(tactic| walk_at "pl_vc1") => `(tactic| first | with_reducible apply c_integer_within)
theorem isLines_cons {n : Int} {l : T} {ls : List T} : isLines n (l :: ls) = (isLine n l && isLines (n + 1) ls) := by rw [isLines]
theorem isFs_mem {xs : List T} (h : isFs xs = true) {x : T} (m : x ∈ xs) : isF x = true := by
  rw [isFs_all, List.all_eq_true] at h
  exact h x m
theorem isF_tupD {xs : List T} (h : isF (.tup xs) = true) : isFs xs = true := by simpa [isF] using h
section
variable {Φ : Nat → Spec}
theorem v_is_recipe (h1 : Φ 1 = spF P_integer_within) (h2 : Φ 2 = spF P_tuple_of) : VC Φ [false, false] P_is_recipe il_is_recipe 5 := by
  rintro ts Q - - ⟨n, t, rfl, ft, q⟩
  show wpSs Φ il_is_recipe _ [_, _, none, none, none]
  unfold il_is_recipe
  have bad : isRec n t = false → Q (.bl false) [] := fun h => by rw [h] at q; exact q
  walk_at "pl_vs"
  · rename_i h
    have h : tupOf t 2 = false := by simpa using h
    refine bad ?_
    unfold isRec
    split
    · simp [tupOf] at h
    · rfl
  · rename_i h
    have h : tupOf t 2 = true := by simpa using h
    obtain ⟨xs, rfl, l⟩ := tupOf_of h
    match xs, (show xs.length = 2 by omega) with
    | [a, k], _ =>
      have fak := isF_tupD ft
      have fa : isF a = true := isFs_mem fak (by simp)
      have fk : isF k = true := isFs_mem fak (by simp)
      walk_at "pl_vs"
      · rename_i h
        refine bad ?_
        unfold isRec
        split
        · rename_i heq
          injection heq with heq
          injection heq with e1 e2
          subst e1
          cases h
        · rfl
      · rename_i h
        obtain ⟨ls, rfl⟩ : ∃ ls, a = .tup ls := by cases a <;> first | exact ⟨_, rfl⟩ | cases h
        have fls := isF_tupD fa
        walk_at "pl_vs"
        refine k_for (fun i Γ => (isLines (n + i) (ls.drop i) = isLines n ls) ∧ Γ = [some (.int n), some (.tup [.tup ls, k]), none, none, none]) ⟨by simp, rfl⟩ ?_ ?_
        · rintro i x Γ hx ⟨hc, rfl⟩ again ag
          rw [List.getElem?_map, List.getElem?_zipIdx] at hx
          obtain ⟨y, hy, rfl⟩ := Option.map_eq_some_iff.mp hx
          obtain ⟨z, hz, rfl⟩ := Option.map_eq_some_iff.mp hy
          obtain ⟨hi, e⟩ := List.getElem?_eq_some_iff.mp hz
          rw [List.drop_eq_getElem_cons hi, e, isLines_cons] at hc
          have fz : isF z = true := isFs_mem fls (e ▸ List.getElem_mem hi)
          simp only [Nat.zero_add]
          have badl : isLine (n + i) z = false → Q (.bl false) [] := fun h => by
            refine bad ?_
            unfold isRec
            simp only
            rw [← hc, h]
            rfl
          walk_at "pl_vs"
          · rename_i h
            have h : tupOf z 3 = false := by simpa using h
            refine badl ?_
            unfold isLine
            split
            · simp [tupOf] at h
            · rfl
          · rename_i h
            have h : tupOf z 3 = true := by simpa using h
            obtain ⟨xs, rfl, l⟩ := tupOf_of h
            match xs, (show xs.length = 3 by omega) with
            | [a, b, c], _ =>
              have fz := isF_tupD fz
              have fa : isF a = true := isFs_mem fz (by simp)
              have fb : isF b = true := isFs_mem fz (by simp)
              have fc : isF c = true := isFs_mem fz (by simp)
              walk_at "pl_vs"
              refine k_lcM (fun x => .bl (within x 0 (n + i - 1))) (fun x hx Kk k => ?_) ?_
              · have fx : isF x = true := isFs_mem fz hx
                unfold kTurn
                simp only [wipeE, List.set_cons_zero, List.set_cons_succ]
                walk_at "pl_vs"
                exact k _ rfl
              · refine b_all (blsT_map (fun x => within x 0 (n + i - 1)) _) ?_
                simp only [backE, keepF, List.getD_cons_zero, List.getD_cons_succ, List.set_cons_zero, List.set_cons_succ]
                walk_at "pl_vs"
                · rename_i h
                  refine badl ?_
                  show (within a 0 (n + i - 1) && within b 0 (n + i - 1) && within c 0 (n + i - 1)) = false
                  rw [show (within a 0 (n + i - 1) && within b 0 (n + i - 1) && within c 0 (n + i - 1)) = ([a, b, c].map fun x => within x 0 (n + i - 1)).all id by simp [Bool.and_assoc]]
                  simpa only [Bool.not_eq_true'] using h
                · rename_i h
                  have h : isLine (n + i) (.tup [a, b, c]) = true := by
                    unfold isLine
                    simpa [Bool.and_assoc] using h
                  rw [h, Bool.true_and] at hc
                  refine ag _ ⟨?_, rfl⟩
                  rw [← hc]
                  congr 1
                  omega
        · rintro Γ ⟨hc, rfl⟩
          have hl : (ls.zipIdx.map fun q => T.tup [.int (q.2 : Nat), q.1]).length = ls.length := by simp
          rw [hl, List.drop_length] at hc
          have ok : isLines n ls = true := hc.symm
          walk_at "pl_vs"
          have : isRec n (.tup [.tup ls, k]) = within k 0 (n + ls.length - 1) := by
            unfold isRec
            simp only [ok, Bool.true_and]
          rw [this] at q
          exact q
end

/-! k79: what == says of sheets and sayings; makes, seen_together, all_sayings. -/
theorem datas_ints (s : List Int) : datas (s.map T.int) = s.map PySem.PyData.int := by
  induction s with
  | nil => simp [datas]
  | cons x xs ih => simp [datas, data, ih]
theorem shp_sT (s : Sheet) : shp (sT s) = true := by
  unfold shp sT
  simp only [data, datas_ints]
  have h := PySem.W.ke_shaped_ints s
  simp only [PySem.SeqAt.shaped, PySem.PyData.canLay0, PySem.PyData.depth] at h ⊢
  exact h
theorem shp_yT (y : Say) : shp (yT y) = true := shp_sT [y.1, y.2.1, y.2.2]
theorem eqv_ints : ∀ a b : List Int, PySem.PyData.eqvAll (a.map PySem.PyData.int) (b.map PySem.PyData.int) = decide (a = b)
  | [], [] => by simp [PySem.PyData.eqvAll]
  | [], _ :: _ => by simp [PySem.PyData.eqvAll]
  | _ :: _, [] => by simp [PySem.PyData.eqvAll]
  | a :: r, b :: t => by
    simp only [List.map_cons, PySem.PyData.eqvAll, PySem.PyData.eqv, eqv_ints r t]
    by_cases h : a = b <;> by_cases h' : r = t <;> simp [h, h']
theorem eqT_sT (a b : Sheet) : eqT (sT a) (sT b) = decide (a = b) := by
  unfold eqT sT
  simp only [data, datas_ints, PySem.PyData.eqv]
  exact eqv_ints a b
theorem eqT_yT (a b : Say) : eqT (yT a) (yT b) = decide (a = b) := by
  have := eqT_sT [a.1, a.2.1, a.2.2] [b.1, b.2.1, b.2.2]
  rw [show yT a = sT [a.1, a.2.1, a.2.2] from rfl, show yT b = sT [b.1, b.2.1, b.2.2] from rfl, this]
  obtain ⟨a1, a2, a3⟩ := a
  obtain ⟨b1, b2, b3⟩ := b
  simp
/-- a line read -/
def decS : T → Say
  | .tup [.int a, .int b, .int c] => (a, b, c)
  | _ => (0, 0, 0)
def makesB (xs : List Sheet) (s : Sheet) (t : T) : Bool := isRec xs.length t && (match t with
  | .tup [.tup ls, .int k] => decide (madeBy xs (ls.map decS) k = some s)
  | _ => false)
def P_makes (ts : List T) (K : T → Prop) : Prop := ∃ xs s t, ts = [xsT xs, sT s, t] ∧ isF t = true ∧ (∀ ls k, t = .tup [.tup ls, k] → xs.length + ls.length ≤ sizeLine) ∧ K (.bl (makesB xs s t))
theorem within_of {t : T} {lo hi : Int} (h : within t lo hi = true) : ∃ i, t = .int i ∧ lo ≤ i ∧ i ≤ hi := by
  cases t <;> first | cases h | skip
  rename_i i
  exact ⟨i, rfl, of_decide_eq_true h⟩
theorem isLine_of {n : Int} {t : T} (h : isLine n t = true) : ∃ y : Say, t = yT y ∧ (0 ≤ y.1 ∧ y.1 < n) ∧ (0 ≤ y.2.1 ∧ y.2.1 < n) ∧ (0 ≤ y.2.2 ∧ y.2.2 < n) := by
  unfold isLine at h
  split at h
  · simp only [Bool.and_eq_true] at h
    obtain ⟨⟨h1, h2⟩, h3⟩ := h
    obtain ⟨a, rfl, a1, a2⟩ := within_of h1
    obtain ⟨b, rfl, b1, b2⟩ := within_of h2
    obtain ⟨c, rfl, c1, c2⟩ := within_of h3
    exact ⟨(a, b, c), rfl, ⟨a1, by simp only; omega⟩, ⟨b1, by simp only; omega⟩, ⟨c1, by simp only; omega⟩⟩
  · cases h
theorem isLines_dec {n : Int} {ls : List T} (h : isLines n ls = true) : ls = (ls.map decS).map yT := by
  induction ls generalizing n with
  | nil => rfl
  | cons l ls ih =>
    rw [isLines_cons, Bool.and_eq_true] at h
    obtain ⟨y, rfl, -⟩ := isLine_of h.1
    simp only [List.map_cons]
    rw [← ih h.2]
    rfl
theorem atI_some {α : Type} {xs : List α} {i : Int} (h0 : 0 ≤ i) (h : i < xs.length) : ∃ x, L2.atI xs i = some x :=
  ⟨xs[i.toNat]'(by omega), atI_nat h0 (List.getElem?_eq_getElem (by omega))⟩
theorem things_some {ls : List Say} : ∀ {xs : List Sheet}, isLines xs.length (ls.map yT) = true → ∃ out, thingsOf xs ls = some out ∧ out.length = xs.length + ls.length := by
  induction ls with
  | nil => exact fun _ => ⟨_, rfl, rfl⟩
  | cons l ls ih =>
    intro xs h
    rw [List.map_cons, isLines_cons, Bool.and_eq_true] at h
    obtain ⟨y, e, h1, h2, h3⟩ := isLine_of h.1
    obtain rfl : l = y := by
      have := eqT_yT l y
      rw [e] at this
      rw [eqT_yT] at this
      simpa using this.symm
    obtain ⟨a, ha⟩ := atI_some h1.1 h1.2
    obtain ⟨b, hb⟩ := atI_some h2.1 h2.2
    obtain ⟨c, hc⟩ := atI_some h3.1 h3.2
    have := ih (xs := xs ++ [mid a b c]) (by simpa using h.2)
    obtain ⟨out, g1, g2⟩ := this
    refine ⟨out, ?_, by rw [g2]; simp; omega⟩
    unfold thingsOf
    rw [ha, hb, hc]
    exact g1
section
variable {Φ : Nat → Spec}
theorem v_makes (h11 : Φ 11 = spF P_made_by) (h12 : Φ 12 = spF P_is_recipe) : VC Φ [false, false, false] P_makes il_makes 3 := by
  rintro ts Q - - ⟨xs, s, t, rfl, ft, hb, q⟩
  show wpSs Φ il_makes _ [some (.tup (xs.map sT)), some (sT s), _]
  unfold il_makes
  have ixs : isFs (xs.map sT) = true := isFs_sT xs
  walk_at "pl_vs"
  rw [List.length_map]
  refine c_is_recipe ft ?_
  walk_at "pl_vs"
  · rename_i h
    have h0 := h
    unfold isRec at h
    split at h
    · rename_i ls k
      rw [Bool.and_eq_true] at h
      obtain ⟨k, rfl, k0, k1⟩ := within_of h.2
      have e := isLines_dec h.1
      obtain ⟨out, g1, g2⟩ := things_some (e ▸ h.1)
      have hl : xs.length + ls.length ≤ sizeLine := hb _ _ rfl
      obtain ⟨m, hm⟩ := atI_some (xs := out) k0 (by rw [g2, List.length_map]; omega)
      have mb : madeBy xs (ls.map decS) k = some m := by
        unfold madeBy
        rw [g1]
        exact hm
      have : makesB xs s (.tup [.tup ls, .int k]) = decide (m = s) := by
        unfold makesB
        rw [h0, Bool.true_and]
        simp only [mb]
        simp
      rw [this] at q
      have e2 : T.tup ls = linesT (ls.map decS) := congrArg T.tup e
      rw [e2]
      refine c_made_by (xs := xs) mb (by rw [List.length_map]; exact hl) ?_
      walk_at "pl_vs"
      refine r_eq (shp_sT _) (shp_sT _) ?_
      rw [eqT_sT]
      walk_at "pl_vs"
      exact q
    · cases h
  · rename_i h
    have : makesB xs s t = false := by
      unfold makesB
      rw [h]
      rfl
    rw [this] at q
    exact q
end

/-! k79: seen together; all sayings of a sheet. -/
/-- the sheet has the saying -/
def has (y : Say) (s : Sheet) : Bool := match L2.atI s y.1 with
  | some a => hld y a
  | none => false
def optT : Option Nat → T
  | none => .non
  | some k => .int (k : Nat)
def seen (xs : List Sheet) (y z : Say) : Option Nat := xs.findIdx? fun s => has y s && has z s
/-- the saying's field is one of each sheet's -/
def inS (xs : List Sheet) (y : Say) : Prop := ∀ s ∈ xs, (L2.atI s y.1).isSome = true
def P_seen_together (ts : List T) (K : T → Prop) : Prop := ∃ xs y z, ts = [xsT xs, yT y, yT z] ∧ way y ∧ way z ∧ inS xs y ∧ inS xs z ∧ K (optT (seen xs y z))
theorem c_seen_together {xs : List Sheet} {y z : Say} {K : T → Prop} (wy : way y) (wz : way z) (iy : inS xs y) (iz : inS xs z) (k : K (optT (seen xs y z))) : P_seen_together [xsT xs, yT y, yT z] K := ⟨xs, y, z, rfl, wy, wz, iy, iz, k⟩
/-- a sheet's own sayings -/
def allSay (fs : List Fld) (s : Sheet) : List Say := s.zipIdx.flatMap fun q => match fs[q.2]? with
  | some f => asay q.2 f q.1
  | none => []
def P_all_sayings (ts : List T) (K : T → Prop) : Prop := ∃ fs s, ts = [fsT fs, sT s] ∧ s.length ≤ fs.length ∧ 2 * s.length ≤ sizeLine ∧ K (.lst true ((allSay fs s).map yT))
theorem c_all_sayings {fs : List Fld} {s : Sheet} {K : T → Prop} (h : s.length ≤ fs.length) (l : 2 * s.length ≤ sizeLine) (k : K (.lst true ((allSay fs s).map yT))) : P_all_sayings [fsT fs, sT s] K := ⟨fs, s, rfl, h, l, k⟩
theorem asay_len (n : Int) (f : Fld) (a : Int) : (asay n f a).length ≤ 2 := by
  unfold asay
  rw [List.length_append]
  split <;> split <;> simp
section
variable {Φ : Nat → Spec}
theorem v_seen_together (h4 : Φ 4 = spF P_holds_in) : VC Φ [false, false, false] P_seen_together il_seen_together 5 := by
  rintro ts Q - - ⟨xs, y, z, rfl, wy, wz, iy, iz, q⟩
  show wpSs Φ il_seen_together _ [some (.tup (xs.map sT)), some (yT y), some (yT z), none, none]
  unfold il_seen_together
  have ixs : isFs (xs.map sT) = true := isFs_sT xs
  walk_at "pl_vs"
  refine k_for (fun i Γ => seen xs y z = ((xs.drop i).findIdx? fun s => has y s && has z s).map (· + i) ∧ Γ = [some (.tup (xs.map sT)), some (yT y), some (yT z), none, none]) ⟨by simp [seen], rfl⟩ ?_ ?_
  · rintro i x Γ hx ⟨hc, rfl⟩ again ag
    rw [List.getElem?_map, List.getElem?_zipIdx, List.getElem?_map] at hx
    obtain ⟨p, hp, rfl⟩ := Option.map_eq_some_iff.mp hx
    obtain ⟨w, hw, rfl⟩ := Option.map_eq_some_iff.mp hp
    obtain ⟨s, hs, rfl⟩ := Option.map_eq_some_iff.mp hw
    obtain ⟨hi, e⟩ := List.getElem?_eq_some_iff.mp hs
    have ms : s ∈ xs := e ▸ List.getElem_mem hi
    obtain ⟨a, ha⟩ := Option.isSome_iff_exists.mp (iy s ms)
    obtain ⟨b, hb⟩ := Option.isSome_iff_exists.mp (iz s ms)
    rw [List.drop_eq_getElem_cons hi, e, List.findIdx?_cons] at hc
    have hy : has y s = hld y a := by simp [has, ha]
    have hz : has z s = hld z b := by simp [has, hb]
    rw [hy, hz] at hc
    simp only [Nat.zero_add]
    walk_at "pl_vs"
    refine ⟨y, s, a, rfl, wy, ha, ?_⟩
    walk_at "pl_vs"
    · rename_i h1
      refine ⟨z, s, b, rfl, wz, hb, ?_⟩
      walk_at "pl_vs"
      · rename_i h2
        rw [h1, h2] at hc
        have : seen xs y z = some i := by simpa using hc
        rw [this] at q
        exact q
      · rename_i h2
        rw [h1, h2] at hc
        refine ag _ ⟨?_, rfl⟩
        rw [hc]
        simp only [Bool.and_false, Bool.false_and, Bool.false_eq_true, if_false, Option.map_map]
        congr 1
        funext x
        simp only [Function.comp]
        omega
    · rename_i h1
      rw [h1] at hc
      refine ag _ ⟨?_, rfl⟩
      rw [hc]
      simp only [Bool.and_false, Bool.false_and, Bool.false_eq_true, if_false, Option.map_map]
      congr 1
      funext x
      simp only [Function.comp]
      omega
  · rintro Γ ⟨hc, rfl⟩
    have : seen xs y z = none := by
      rw [hc]
      simp
    rw [this] at q
    walk_at "pl_vs"
    exact q
theorem v_all_sayings (h5 : Φ 5 = spF P_answer_sayings) : VC Φ [false, false] P_all_sayings il_all_sayings 5 := by
  rintro ts Q - - ⟨fs, s, rfl, hl, hz, q⟩
  show wpSs Φ il_all_sayings _ [some (fsT fs), some (.tup (s.map T.int)), none, none, none]
  unfold il_all_sayings
  have is : isFs (s.map T.int) = true := isF_ints s
  walk_at "pl_vs"
  refine k_for (fun i Γ => ∃ acc : List Say, acc.length ≤ 2 * i ∧ allSay fs s = acc ++ ((s.zipIdx).drop i).flatMap (fun q => match fs[q.2]? with
  | some f => asay q.2 f q.1
  | none => []) ∧ Γ = [some (fsT fs), some (.tup (s.map T.int)), some (.lst true (acc.map yT)), none, none]) ⟨[], by simp, by simp [allSay], rfl⟩ ?_ ?_
  · rintro i x Γ hx ⟨acc, ha, hc, rfl⟩ again ag
    rw [List.getElem?_map, List.getElem?_zipIdx, List.getElem?_map] at hx
    obtain ⟨p, hp, rfl⟩ := Option.map_eq_some_iff.mp hx
    obtain ⟨w, hw, rfl⟩ := Option.map_eq_some_iff.mp hp
    obtain ⟨a, hs, rfl⟩ := Option.map_eq_some_iff.mp hw
    obtain ⟨hi, e⟩ := List.getElem?_eq_some_iff.mp hs
    have hi2 : i < s.zipIdx.length := by simpa using hi
    have hf : i < fs.length := by omega
    have ez : s.zipIdx[i] = (a, i) := by simp [e]
    rw [List.drop_eq_getElem_cons hi2, ez, List.flatMap_cons, List.getElem?_eq_getElem hf, ← List.append_assoc] at hc
    simp only [Nat.zero_add]
    have hn : L2.atI fs (i : Int) = some fs[i] := atI_nat (by omega) (by simp [hf])
    walk_at "pl_vs"
    refine c_answer_sayings hn ?_
    have hlen := asay_len i fs[i] a
    have hk : (acc.map yT).length + ((asay i fs[i] a).map yT).length ≤ sizeLine := by
      simp only [List.length_map]
      omega
    walk_at "pl_vs"
    refine ag _ ⟨acc ++ asay i fs[i] a, by rw [List.length_append]; omega, hc, ?_⟩
    rw [List.map_append]
  · rintro Γ ⟨acc, -, hc, rfl⟩
    have hd : s.zipIdx.drop ((s.map T.int).zipIdx.map fun q => T.tup [.int (q.2 : Nat), q.1]).length = [] := by simp
    rw [hd] at hc
    simp only [List.flatMap_nil, List.append_nil] at hc
    rw [← hc]
    walk_at "pl_vs"
    exact q
end

/-! k79: the first two sayings that no sheet has both. -/
/-- what the hull's functions may be handed -/
structure HullIn (fs : List Fld) (xs : List Sheet) (s : Sheet) : Prop where
  len : s.length ≤ fs.length
  cap : 2 * s.length ≤ sizeLine
  ways : ∀ y ∈ allSay fs s, way y
  inn : ∀ y ∈ allSay fs s, inS xs y
def P_unseen_two (ts : List T) (K : T → Prop) : Prop := ∃ fs xs s, ts = [fsT fs, xsT xs, sT s] ∧ HullIn fs xs s ∧
  (∀ y ∈ allSay fs s, ∀ z ∈ allSay fs s, seen xs y z = none → K (.tup [yT y, yT z])) ∧ ((∀ y ∈ allSay fs s, ∀ z ∈ allSay fs s, (seen xs y z).isSome = true) → K .non)
theorem c_unseen_two {fs : List Fld} {xs : List Sheet} {s : Sheet} {K : T → Prop} (h : HullIn fs xs s) (k1 : ∀ y ∈ allSay fs s, ∀ z ∈ allSay fs s, seen xs y z = none → K (.tup [yT y, yT z])) (k2 : (∀ y ∈ allSay fs s, ∀ z ∈ allSay fs s, (seen xs y z).isSome = true) → K .non) : P_unseen_two [fsT fs, xsT xs, sT s] K := ⟨fs, xs, s, rfl, h, k1, k2⟩
theorem isNon_optT (o : Option Nat) : isNon (optT o) = !o.isSome := by cases o <;> rfl
theorem isF_optT {o : Option Nat} : isF (optT o) = true := by cases o <;> rfl
theorem seen_comm (xs : List Sheet) (y z : Say) : seen xs y z = seen xs z y := by
  unfold seen
  congr 1
  funext s
  exact Bool.and_comm _ _
theorem cut_from {α : Type} {xs : List α} {i : Nat} (h : i ≤ xs.length) : slP.cutV' xs (some (i : Int)) none = xs.drop i := by
  unfold slP.cutV'
  rw [HT.sIx_nat, HT.sIx_none, Nat.min_eq_left h]
  exact List.take_of_length_le (by simp)
section
variable {Φ : Nat → Spec}
theorem v_unseen_two (h14 : Φ 14 = spF P_seen_together) (h15 : Φ 15 = spF P_all_sayings) : VC Φ [false, false, false] P_unseen_two il_unseen_two 7 := by
  rintro ts Q - - ⟨fs, xs, s, rfl, hi, q1, q2⟩
  show wpSs Φ il_unseen_two _ [some (fsT fs), some (xsT xs), some (sT s), none, none, none, none]
  unfold il_unseen_two
  walk_at "pl_vs"
  refine c_all_sayings hi.len hi.cap ?_
  have iy := isFs_yT (allSay fs s)
  refine k_bind rfl ?_
  refine s_cons ?_
  refine s_frz rfl ?_
  simp only [List.set_cons_zero, List.set_cons_succ]
  rw [show fz (.lst true ((allSay fs s).map yT)) = .lst false ((allSay fs s).map yT) from congrArg (T.lst false) (fzs_of_isF _ iy)]
  have hw := hi.ways
  have hn := hi.inn
  clear hi
  generalize allSay fs s = A at *
  walk_at "pl_vs"
  refine k_for (fun i Γ => (∀ a b y z, a < i → a ≤ b → A[a]? = some y → A[b]? = some z → (seen xs y z).isSome = true) ∧ Γ = [some (fsT fs), some (xsT xs), some (sT s), some (.lst false (A.map yT)), none, none, none]) ⟨fun a b _ _ h => by omega, rfl⟩ ?_ ?_
  · rintro i x Γ hx ⟨hc, rfl⟩ again ag
    rw [List.getElem?_map, List.getElem?_zipIdx, List.getElem?_map] at hx
    obtain ⟨p, hp, rfl⟩ := Option.map_eq_some_iff.mp hx
    obtain ⟨w, hw', rfl⟩ := Option.map_eq_some_iff.mp hp
    obtain ⟨y, hs, rfl⟩ := Option.map_eq_some_iff.mp hw'
    obtain ⟨hi, e⟩ := List.getElem?_eq_some_iff.mp hs
    simp only [Nat.zero_add]
    have my : y ∈ A := e ▸ List.getElem_mem hi
    walk_at "pl_vs"
    rw [cut_from (by rw [List.length_map]; omega), ← List.map_drop]
    have id := isFs_yT (A.drop i)
    refine k_holdT rfl id ?_
    refine k_for (fun j Γ => (∀ b z, i ≤ b → b < i + j → A[b]? = some z → (seen xs y z).isSome = true) ∧ Γ = [some (fsT fs), some (xsT xs), some (sT s), some (.lst false (A.map yT)), some (.int i), some (yT y), none]) ⟨fun b _ h1 h2 => by omega, rfl⟩ ?_ ?_
    · rintro j x Γ hx ⟨hd, rfl⟩ again ag
      rw [List.getElem?_map, List.getElem?_drop] at hx
      obtain ⟨z, hz, rfl⟩ := Option.map_eq_some_iff.mp hx
      obtain ⟨hj, e2⟩ := List.getElem?_eq_some_iff.mp hz
      have mz : z ∈ A := e2 ▸ List.getElem_mem hj
      walk_at "pl_vs"
      refine c_seen_together (hw _ my) (hw _ mz) (hn _ my) (hn _ mz) ?_
      walk_at "pl_vs"
      · rename_i h
        rw [isNon_optT] at h
        exact q1 y my z mz (by simpa using h)
      · rename_i h
        rw [isNon_optT] at h
        refine ag _ ⟨fun b z' h1 h2 h3 => ?_, rfl⟩
        by_cases hb : b = i + j
        · subst hb
          rw [hz] at h3
          cases h3
          simpa using h
        · exact hd b z' h1 (by omega) h3
    · rintro Γ ⟨hd, rfl⟩
      rw [List.length_map, List.length_drop] at hd
      walk_at "pl_vs"
      refine ag _ ⟨fun a b y' z' h1 h2 h3 h4 => ?_, rfl⟩
      by_cases ha : a = i
      · subst ha
        rw [hs] at h3
        cases h3
        have := (List.getElem?_eq_some_iff.mp h4).1
        exact hd b z' h2 (by omega) h4
      · exact hc a b y' z' (by omega) h2 h3 h4
  · rintro Γ ⟨hc, rfl⟩
    walk_at "pl_vs"
    refine q2 fun y hy z hz => ?_
    have hl : ((A.map yT).zipIdx.map fun q => T.tup [.int (q.2 : Nat), q.1]).length = A.length := by simp
    rw [hl] at hc
    obtain ⟨a, ha, rfl⟩ := List.mem_iff_getElem.mp hy
    obtain ⟨b, hb, rfl⟩ := List.mem_iff_getElem.mp hz
    rcases Nat.le_total a b with h | h
    · exact hc a b _ _ ha h (List.getElem?_eq_getElem ha) (List.getElem?_eq_getElem hb)
    · rw [seen_comm]
      exact hc b a _ _ hb h (List.getElem?_eq_getElem hb) (List.getElem?_eq_getElem ha)
end

/-! k79: the mathematics of middles, in plain Lean. -/
theorem atI_cast {α : Type} (xs : List α) (i : Nat) : L2.atI xs (i : Int) = xs[i]? := by
  unfold L2.atI L2.ixN
  rw [if_pos (by omega)]
  by_cases h : i < xs.length
  · rw [if_pos (by omega)]; simp
  · rw [if_neg (by omega), List.getElem?_eq_none (by omega)]; rfl
theorem mem_asay {n : Int} {f : Fld} {a : Int} {y : Say} : y ∈ asay n f a ↔ (a < f.2.2 ∧ y = (n, -1, a)) ∨ (f.2.1 < a ∧ y = (n, 1, a)) := by
  unfold asay
  rw [List.mem_append]
  by_cases h1 : a < f.2.2 <;> by_cases h2 : f.2.1 < a <;> simp [h1, h2]
theorem mem_allSay {fs : List Fld} {s : Sheet} {y : Say} : y ∈ allSay fs s ↔ ∃ (i : Nat) (a : Int) (f : Fld), s[i]? = some a ∧ fs[i]? = some f ∧ ((a < f.2.2 ∧ y = ((i : Int), -1, a)) ∨ (f.2.1 < a ∧ y = ((i : Int), 1, a))) := by
  unfold allSay
  rw [List.mem_flatMap]
  constructor
  · rintro ⟨⟨a, i⟩, hm, hy⟩
    have := List.mk_mem_zipIdx_iff_getElem?.mp hm
    simp only at hy
    cases e : fs[i]? with
    | none => rw [e] at hy; cases hy
    | some f =>
      rw [e] at hy
      exact ⟨i, a, f, this, e, mem_asay.mp hy⟩
  · rintro ⟨i, a, f, h1, h2, h3⟩
    refine ⟨(a, i), List.mk_mem_zipIdx_iff_getElem?.mpr h1, ?_⟩
    simp only [h2]
    exact mem_asay.mpr h3
/-- inside the fields' bounds -/
structure Box (fs : List Fld) (s : Sheet) : Prop where
  len : s.length = fs.length
  inn : ∀ (i : Nat) (f : Fld) (a : Int), fs[i]? = some f → s[i]? = some a → f.2.1 ≤ a ∧ a ≤ f.2.2
theorem mid_get {a b c : Sheet} {i : Nat} {x y z : Int} (ha : a[i]? = some x) (hb : b[i]? = some y) (hc : c[i]? = some z) : (mid a b c)[i]? = some (med x y z) := by
  unfold mid
  rw [List.getElem?_map, List.getElem?_zip_eq_some (z := (x, y, z)) |>.mpr ⟨ha, List.getElem?_zip_eq_some (z := (y, z)) |>.mpr ⟨hb, hc⟩⟩]
  rfl
theorem mid_box {fs : List Fld} {a b c : Sheet} (ha : Box fs a) (hb : Box fs b) (hc : Box fs c) : Box fs (mid a b c) := by
  refine ⟨?_, fun i f v hf hv => ?_⟩
  · unfold mid
    rw [List.length_map, List.length_zip, List.length_zip, ha.len, hb.len, hc.len]
    omega
  · have hi : i < fs.length := (List.getElem?_eq_some_iff.mp hf).1
    have ea := List.getElem?_eq_getElem (l := a) (i := i) (by rw [ha.len]; exact hi)
    have eb := List.getElem?_eq_getElem (l := b) (i := i) (by rw [hb.len]; exact hi)
    have ec := List.getElem?_eq_getElem (l := c) (i := i) (by rw [hc.len]; exact hi)
    rw [mid_get ea eb ec] at hv
    obtain ⟨a1, a2⟩ := ha.inn i f _ hf ea
    obtain ⟨b1, b2⟩ := hb.inn i f _ hf eb
    obtain ⟨c1, c2⟩ := hc.inn i f _ hf ec
    generalize a[i]'_ = p at *
    generalize b[i]'_ = q at *
    generalize c[i]'_ = r at *
    cases hv
    unfold med
    omega
/-- of the three at least two -/
def two3 (p q r : Bool) : Bool := (p && q) || (p && r) || (q && r)
theorem hld_med {y : Say} (w : way y) (a b c : Int) : hld y (med a b c) = two3 (hld y a) (hld y b) (hld y c) := by
  have hd : ∀ p q r : Prop, [Decidable p] → [Decidable q] → [Decidable r] → two3 (decide p) (decide q) (decide r) = decide ((p ∧ q) ∨ (p ∧ r) ∨ (q ∧ r)) := by
    intro p q r _ _ _
    by_cases h1 : p <;> by_cases h2 : q <;> by_cases h3 : r <;> simp [two3, h1, h2, h3]
  unfold hld
  rw [hd]
  refine decide_eq_decide.mpr ?_
  unfold med
  rcases w with h | h <;> rw [h] <;> omega
theorem has_mid {y : Say} {k : Nat} (w : way y) {a b c : Sheet} (hk : y.1 = (k : Int)) (ha : k < a.length) (hb : k < b.length) (hc : k < c.length) : has y (mid a b c) = two3 (has y a) (has y b) (has y c) := by
  have ea := List.getElem?_eq_getElem ha
  have eb := List.getElem?_eq_getElem hb
  have ec := List.getElem?_eq_getElem hc
  unfold has
  rw [hk, atI_cast, atI_cast, atI_cast, atI_cast, mid_get ea eb ec, ea, eb, ec]
  exact hld_med w _ _ _
/-- a saying over fields below n -/
structure Sy (n : Nat) (y : Say) : Prop where
  w : way y
  lo : 0 ≤ y.1
  hi : y.1 < n
theorem has_mid' {n : Nat} {y : Say} (h : Sy n y) {a b c : Sheet} (ha : a.length = n) (hb : b.length = n) (hc : c.length = n) : has y (mid a b c) = two3 (has y a) (has y b) (has y c) := by
  have := h.lo
  have := h.hi
  exact has_mid (k := y.1.toNat) h.w (by omega) (by omega) (by omega) (by omega)
theorem mid_len {a b c : Sheet} {n : Nat} (ha : a.length = n) (hb : b.length = n) (hc : c.length = n) : (mid a b c).length = n := by
  unfold mid
  rw [List.length_map, List.length_zip, List.length_zip, ha, hb, hc]
  omega
theorem two3_of {p q r : Bool} (h : two3 p q r = true) : (p = true ∧ q = true) ∨ (p = true ∧ r = true) ∨ (q = true ∧ r = true) := by
  cases p <;> cases q <;> cases r <;> simp_all [two3]
theorem things_all (P : Sheet → Prop) (hp : ∀ a b c, P a → P b → P c → P (mid a b c)) : ∀ {ls : List Say} {xs out : List Sheet}, thingsOf xs ls = some out → (∀ x ∈ xs, P x) → ∀ x ∈ out, P x
  | [], xs, out, h, hx => by simp only [thingsOf] at h; cases h; exact hx
  | l :: ls, xs, out, h, hx => by
    unfold thingsOf at h
    split at h
    · rename_i a b c h1 h2 h3
      have at_mem : ∀ {i : Int} {a : Sheet}, L2.atI xs i = some a → a ∈ xs := fun h => by
        obtain ⟨j, _, h2⟩ := Option.bind_eq_some_iff.mp h
        exact List.mem_of_getElem? h2
      refine things_all P hp h fun x hm => ?_
      rcases List.mem_append.mp hm with z | z
      · exact hx x z
      · simp only [List.mem_singleton] at z
        subst z
        exact hp _ _ _ (hx _ (at_mem h1)) (hx _ (at_mem h2)) (hx _ (at_mem h3))
    · cases h
theorem atI_mem {α : Type} {xs : List α} {i : Int} {a : α} (h : L2.atI xs i = some a) : a ∈ xs := by
  obtain ⟨j, _, h2⟩ := Option.bind_eq_some_iff.mp h
  exact List.mem_of_getElem? h2
theorem seen_some {xs : List Sheet} {y z : Say} : (seen xs y z).isSome = true ↔ ∃ x ∈ xs, has y x = true ∧ has z x = true := by
  unfold seen
  rw [List.findIdx?_isSome, List.any_eq_true]
  simp
/-- each two sayings of the sheet are seen together -/
def AllSeen (fs : List Fld) (xs : List Sheet) (s : Sheet) : Prop := ∀ y ∈ allSay fs s, ∀ z ∈ allSay fs s, (seen xs y z).isSome = true
/-- what recipes make has no two sayings that no sheet has -/
theorem made_seen {n : Nat} {xs out : List Sheet} {ls : List Say} (hx : ∀ x ∈ xs, x.length = n) (h : thingsOf xs ls = some out) {m : Sheet} (hm : m ∈ out) {y z : Say} (sy : Sy n y) (sz : Sy n z) (hy : has y m = true) (hz : has z m = true) : (seen xs y z).isSome = true := by
  have := things_all (fun m => m.length = n ∧ ∀ y z, Sy n y → Sy n z → has y m = true → has z m = true → (seen xs y z).isSome = true) (fun a b c ha hb hc => by
    refine ⟨mid_len ha.1 hb.1 hc.1, fun y z sy sz hy hz => ?_⟩
    rw [has_mid' sy ha.1 hb.1 hc.1] at hy
    rw [has_mid' sz ha.1 hb.1 hc.1] at hz
    rcases two3_of hy with h | h | h <;> rcases two3_of hz with g | g | g
    all_goals first
      | exact ha.2 y z sy sz (by first | exact h.1 | exact h.2) (by first | exact g.1 | exact g.2)
      | exact hb.2 y z sy sz (by first | exact h.1 | exact h.2) (by first | exact g.1 | exact g.2)
      | exact hc.2 y z sy sz (by first | exact h.1 | exact h.2) (by first | exact g.1 | exact g.2)) h (fun x hm => ⟨hx x hm, fun y z _ _ hy hz => seen_some.mpr ⟨x, hm, hy, hz⟩⟩) m hm
  exact this.2 y z sy sz hy hz
/-- where each two sayings are seen, something closed under middles has all -/
theorem all_in {n : Nat} {xs : List Sheet} (C : Sheet → Prop) (hC : ∀ a b c, C a → C b → C c → C (mid a b c)) (hn : ∀ a, C a → a.length = n) (hx : ∀ x ∈ xs, C x) (A : List Say) (hA : ∀ y ∈ A, Sy n y) (hs : ∀ y ∈ A, ∀ z ∈ A, (seen xs y z).isSome = true) (ne : xs ≠ []) : ∃ m, C m ∧ ∀ y ∈ A, has y m = true := by
  have key : ∀ L : List Say, (∀ y ∈ L, y ∈ A) → ∀ z ∈ A, ∃ m, C m ∧ (∀ y ∈ L, has y m = true) ∧ has z m = true := by
    intro L
    induction L with
    | nil =>
      intro _ z hz
      obtain ⟨x, hm, h1, _⟩ := seen_some.mp (hs z hz z hz)
      exact ⟨x, hx x hm, by simp, h1⟩
    | cons u L ih =>
      intro hL z hz
      have hu : u ∈ A := hL u List.mem_cons_self
      have hL' : ∀ y ∈ L, y ∈ A := fun y hy => hL y (List.mem_cons_of_mem _ hy)
      obtain ⟨m1, c1, a1, b1⟩ := ih hL' z hz
      obtain ⟨m2, c2, a2, b2⟩ := ih hL' u hu
      obtain ⟨x, hm, h1, h2⟩ := seen_some.mp (hs u hu z hz)
      have l1 := hn m1 c1
      have l2 := hn m2 c2
      have l3 := hn x (hx x hm)
      refine ⟨mid m1 m2 x, hC _ _ _ c1 c2 (hx x hm), fun y hy => ?_, ?_⟩
      · rcases List.mem_cons.mp hy with e | e
        · subst e
          rw [has_mid' (hA _ hu) l1 l2 l3, b2, h1]
          cases has y m1 <;> rfl
        · rw [has_mid' (hA _ (hL' y e)) l1 l2 l3, a1 y e, a2 y e]
          rfl
      · rw [has_mid' (hA _ hz) l1 l2 l3, b1, h2]
        cases has z m2 <;> rfl
  cases hA' : A with
  | nil =>
    obtain ⟨x, hm⟩ := List.exists_mem_of_ne_nil _ ne
    exact ⟨x, hx x hm, by simp⟩
  | cons z L =>
    obtain ⟨m, c, h1, h2⟩ := key A (fun _ h => h) z (by rw [hA']; exact List.mem_cons_self)
    rw [hA'] at h1
    exact ⟨m, c, h1⟩
/-- a sheet has its own sayings -/
theorem has_own {fs : List Fld} {s : Sheet} {y : Say} (h : y ∈ allSay fs s) : has y s = true := by
  obtain ⟨i, a, f, h1, h2, h3⟩ := mem_allSay.mp h
  rcases h3 with ⟨_, rfl⟩ | ⟨_, rfl⟩ <;> (unfold has; simp only [atI_cast, h1]; simp [hld])
theorem allSay_Sy {fs : List Fld} {s : Sheet} {y : Say} (h : y ∈ allSay fs s) : Sy fs.length y := by
  obtain ⟨i, a, f, h1, h2, h3⟩ := mem_allSay.mp h
  have hi : i < fs.length := (List.getElem?_eq_some_iff.mp h2).1
  rcases h3 with ⟨_, rfl⟩ | ⟨_, rfl⟩
  · exact ⟨.inr rfl, by simp, by simp only; omega⟩
  · exact ⟨.inl rfl, by simp, by simp only; omega⟩
/-- one within the bounds that has all of a sheet's sayings is this sheet -/
theorem all_own {fs : List Fld} {s m : Sheet} (bs : Box fs s) (bm : Box fs m) (h : ∀ y ∈ allSay fs s, has y m = true) : m = s := by
  apply List.ext_getElem?
  intro i
  by_cases hi : i < fs.length
  · have ef := List.getElem?_eq_getElem hi
    have es := List.getElem?_eq_getElem (l := s) (i := i) (by rw [bs.len]; exact hi)
    have em := List.getElem?_eq_getElem (l := m) (i := i) (by rw [bm.len]; exact hi)
    have s1 := bs.inn i _ _ ef es
    have m1 := bm.inn i _ _ ef em
    rw [es, em]
    congr 1
    have k1 : s[i]'(by rw [bs.len]; exact hi) < fs[i].2.2 → m[i]'(by rw [bm.len]; exact hi) ≤ s[i]'(by rw [bs.len]; exact hi) := fun q => by
      have := h _ (mem_allSay.mpr ⟨i, _, _, es, ef, .inl ⟨q, rfl⟩⟩)
      unfold has at this
      simp only [atI_cast, em] at this
      simp [hld] at this
      omega
    have k2 : fs[i].2.1 < s[i]'(by rw [bs.len]; exact hi) → s[i]'(by rw [bs.len]; exact hi) ≤ m[i]'(by rw [bm.len]; exact hi) := fun q => by
      have := h _ (mem_allSay.mpr ⟨i, _, _, es, ef, .inr ⟨q, rfl⟩⟩)
      unfold has at this
      simp only [atI_cast, em] at this
      simp [hld] at this
      omega
    omega
  · rw [List.getElem?_eq_none (by rw [bm.len]; omega), List.getElem?_eq_none (by rw [bs.len]; omega)]
theorem allSay_len (fs : List Fld) (s : Sheet) : (allSay fs s).length ≤ 2 * s.length := by
  have key : ∀ (zs : List (Int × Nat)), (zs.flatMap fun q => match fs[q.2]? with | some f => asay q.2 f q.1 | none => []).length ≤ 2 * zs.length := by
    intro zs
    induction zs with
    | nil => simp
    | cons z zs ih =>
      rw [List.flatMap_cons, List.length_append, List.length_cons]
      have : (match fs[z.2]? with | some f => asay z.2 f z.1 | none => []).length ≤ 2 := by
        split
        · exact asay_len _ _ _
        · simp
      omega
  have := key s.zipIdx
  rwa [List.length_zipIdx] at this
/-- where the hull's functions are asked -/
structure Cx (fs : List Fld) (xs : List Sheet) (s : Sheet) : Prop where
  few : fs.length ≤ 12
  bs : Box fs s
  bx : ∀ x ∈ xs, Box fs x
  ne : xs ≠ []
  cap : xs.length ≤ 200
theorem inS_of {xs : List Sheet} {y : Say} {n : Nat} (h : Sy n y) (hx : ∀ x ∈ xs, x.length = n) : inS xs y := fun x hm => by
  have h1 := h.lo
  have h2 := h.hi
  have l := hx x hm
  rw [show y.1 = ((y.1.toNat : Nat) : Int) by omega, atI_cast, List.getElem?_eq_getElem (by omega)]
  rfl
theorem Cx.hull {fs : List Fld} {xs : List Sheet} {s : Sheet} (c : Cx fs xs s) : HullIn fs xs s := by
  have hf := c.few
  have hl := c.bs.len
  have sl : PySem.sizeLine = 16777216 := rfl
  exact ⟨by omega, by omega, fun y hy => (allSay_Sy hy).w, fun y hy => inS_of (allSay_Sy hy) fun x hm => (c.bx x hm).len⟩
theorem Cx.sq {fs : List Fld} {xs : List Sheet} {s : Sheet} (c : Cx fs xs s) : xs.length + (allSay fs s).length * (allSay fs s).length ≤ PySem.sizeLine := by
  have hf := c.few
  have hl := c.bs.len
  have h1 := allSay_len fs s
  have h2 := c.cap
  have sl : PySem.sizeLine = 16777216 := rfl
  have : (allSay fs s).length * (allSay fs s).length ≤ 24 * 24 := Nat.mul_le_mul (by omega) (by omega)
  omega
theorem Cx.made {fs : List Fld} {xs : List Sheet} {s : Sheet} (c : Cx fs xs s) {ls : List Say} {k : Int} {m : Sheet} (h : madeBy xs ls k = some m) : Box fs m := by
  obtain ⟨out, h1, h2⟩ := Option.bind_eq_some_iff.mp h
  exact things_all (Box fs) (fun _ _ _ => mid_box) h1 c.bx m (atI_mem h2)

/-! k79: the hull; two sayings unseen; a paper judged. -/
/-- a recipe as a value -/
def recT (ls : List Say) (k : Int) : T := .tup [linesT ls, .int k]
/-- recipe_for: some recipe that makes the sheet -/
def P_recipe_for (ts : List T) (K : T → Prop) : Prop := ∃ fs xs s, ts = [fsT fs, xsT xs, sT s] ∧ Cx fs xs s ∧ AllSeen fs xs s ∧
  ∀ ls k, ls.length ≤ 600 → isRec xs.length (recT ls k) = true → madeBy xs ls k = some s → K (recT ls k)
theorem c_recipe_for {fs : List Fld} {xs : List Sheet} {s : Sheet} {K : T → Prop} (h : Cx fs xs s) (al : AllSeen fs xs s)
    (k : ∀ ls k, ls.length ≤ 600 → isRec xs.length (recT ls k) = true → madeBy xs ls k = some s → K (recT ls k)) : P_recipe_for [fsT fs, xsT xs, sT s] K := ⟨fs, xs, s, rfl, h, al, k⟩
def P_hull_of (ts : List T) (K : T → Prop) : Prop := ∃ fs xs s, ts = [fsT fs, xsT xs, sT s] ∧ Cx fs xs s ∧
  (∀ y ∈ allSay fs s, ∀ z ∈ allSay fs s, seen xs y z = none → K (.tup [.str "out", yT y, yT z])) ∧
  (AllSeen fs xs s → ∀ ls k, ls.length ≤ 600 → isRec xs.length (recT ls k) = true → madeBy xs ls k = some s → K (.tup [.str "in", recT ls k]))
theorem c_hull_of {fs : List Fld} {xs : List Sheet} {s : Sheet} {K : T → Prop} (h : Cx fs xs s) (k1 : ∀ y ∈ allSay fs s, ∀ z ∈ allSay fs s, seen xs y z = none → K (.tup [.str "out", yT y, yT z]))
    (k2 : AllSeen fs xs s → ∀ ls k, ls.length ≤ 600 → isRec xs.length (recT ls k) = true → madeBy xs ls k = some s → K (.tup [.str "in", recT ls k])) : P_hull_of [fsT fs, xsT xs, sT s] K := ⟨fs, xs, s, rfl, h, k1, k2⟩
theorem isF_recT {ls : List Say} {k : Int} : isF (recT ls k) = true := isF_tup (isFs_cons isF_linesT (isFs_cons isF_int isFs_nil))
local macro_rules | `(tactic| walk_at "pl_isf1") => `(tactic| first | with_reducible exact isF_recT | with_reducible exact isF_yT)
section
variable {Φ : Nat → Spec}
theorem v_hull_of (h16 : Φ 16 = spF P_unseen_two) (h17 : Φ 17 = spF P_recipe_for) : VC Φ [false, false, false] P_hull_of il_hull_of 4 := by
  rintro ts Q - - ⟨fs, xs, s, rfl, hi, q1, q2⟩
  show wpSs Φ il_hull_of _ [some (fsT fs), some (xsT xs), some (sT s), none]
  unfold il_hull_of
  walk_at "pl_vs"
  refine c_unseen_two hi.hull (fun y my z mz hn => ?_) fun al => ?_
  · walk_at "pl_vs"
    · exact q1 y my z mz hn
    · rename_i h
      cases h
  · walk_at "pl_vs"
    · rename_i h
      cases h
    · refine c_recipe_for hi al fun ls k h1 h2 h3 => ?_
      walk_at "pl_vs"
      exact q2 al ls k h1 h2 h3
end

/-! k79: two sayings that are told as unseen; a paper judged. -/
/-- a thing read as a saying -/
def unseenB (fs : List Fld) (xs : List Sheet) (s : Sheet) (a b : T) : Bool := isSay fs a && isSay fs b && (decide (decS a ∈ allSay fs s) && decide (decS b ∈ allSay fs s) && (seen xs (decS a) (decS b)).isNone)
def P_are_unseen (ts : List T) (K : T → Prop) : Prop := ∃ fs xs s a b, ts = [fsT fs, xsT xs, sT s, .tup [a, b]] ∧ isF a = true ∧ isF b = true ∧ HullIn fs xs s ∧ K (.bl (unseenB fs xs s a b))
theorem isSay_dec {fs : List Fld} {t : T} (h : isSay fs t = true) : t = yT (decS t) := by
  unfold isSay at h
  split at h
  · rfl
  · cases h
theorem any_yT (A : List Say) (y : Say) : ((A.map yT).any fun x => eqT x (yT y)) = decide (y ∈ A) := by
  rw [List.any_map]
  induction A with
  | nil => simp
  | cons a A ih =>
    rw [List.any_cons, ih]
    simp only [Function.comp, eqT_yT, List.mem_cons]
    by_cases h : a = y
    · simp [h]
    · simp [h, show ¬ y = a from fun e => h e.symm]
theorem shps_yT (A : List Say) : shp (.lst false (A.map yT)) = true := by
  unfold shp
  have h : datas (A.map yT) = A.map fun y => PySem.PyData.tuple [.int y.1, .int y.2.1, .int y.2.2] := by
    induction A with
    | nil => simp [datas]
    | cons x xs ih => simp [datas, data, ih, yT]
  have h2 : ∀ A : List Say, PySem.PyData.canLayAll0 (A.map fun y => PySem.PyData.tuple [.int y.1, .int y.2.1, .int y.2.2]) = true ∧ PySem.PyData.depthAll (A.map fun y => PySem.PyData.tuple [.int y.1, .int y.2.1, .int y.2.2]) ≤ 1 := by
    intro A
    induction A with
    | nil => simp [PySem.PyData.canLayAll0, PySem.PyData.depthAll]
    | cons x xs ih =>
      refine ⟨by simp [PySem.PyData.canLayAll0, PySem.PyData.canLay0, ih.1], ?_⟩
      simp only [List.map_cons, PySem.PyData.depthAll, PySem.PyData.depth]
      have := ih.2
      omega
  have := h2 A
  simp only [data, h, PySem.SeqAt.shaped, PySem.PyData.canLay0, PySem.PyData.depth, this.1, Bool.true_and]
  exact decide_eq_true (by omega)
section
variable {Φ : Nat → Spec}
theorem v_are_unseen (h8 : Φ 8 = spF P_is_saying) (h14 : Φ 14 = spF P_seen_together) (h15 : Φ 15 = spF P_all_sayings) : VC Φ [false, false, false, false] P_are_unseen il_are_unseen 6 := by
  rintro ts Q - - ⟨fs, xs, s, a, b, rfl, fa, fb, hi, q⟩
  show wpSs Φ il_are_unseen _ [some (fsT fs), some (xsT xs), some (sT s), some (.tup [a, b]), none, none]
  unfold il_are_unseen
  walk_at "pl_vs"
  refine k_lcM (fun x => .bl (isSay fs x)) (fun x hx Kk k => ?_) ?_
  · have fx : isF x = true := by
      simp only [List.mem_cons, List.not_mem_nil, or_false] at hx
      rcases hx with rfl | rfl <;> assumption
    unfold kTurn
    simp only [wipeE, List.set_cons_zero, List.set_cons_succ]
    walk_at "pl_vs"
    refine c_is_saying fx ?_
    walk_at "pl_vs"
    exact k _ rfl
  refine b_all (blsT_map (isSay fs) _) ?_
  simp only [backE, keepF, List.getD_cons_zero, List.getD_cons_succ, List.set_cons_zero, List.set_cons_succ]
  walk_at "pl_vs"
  · rename_i h
    have : unseenB fs xs s a b = false := by
      unfold unseenB
      cases ha : isSay fs a <;> cases hb : isSay fs b <;> simp [ha, hb] at h ⊢
    rw [this] at q
    exact q
  · rename_i h
    have h : isSay fs a = true ∧ isSay fs b = true := by simpa using h
    refine c_all_sayings hi.len hi.cap ?_
    walk_at "pl_vs"
    refine k_lcM (fun x => .bl (decide (decS x ∈ allSay fs s))) (fun x hx Kk k => ?_) ?_
    · have fx : isF x = true := by
        simp only [List.mem_cons, List.not_mem_nil, or_false] at hx
        rcases hx with rfl | rfl <;> assumption
      have ex : x = yT (decS x) := by
        simp only [List.mem_cons, List.not_mem_nil, or_false] at hx
        rcases hx with rfl | rfl
        · exact isSay_dec h.1
        · exact isSay_dec h.2
      unfold kTurn
      simp only [wipeE, List.set_cons_zero, List.set_cons_succ]
      walk_at "pl_vs"
      refine r_inL (by rw [ex]; exact shp_yT _) (shps_yT _) ?_
      rw [ex, any_yT]
      walk_at "pl_vs"
      rw [← ex]
      exact k _ rfl
    refine b_all (blsT_map (fun x => decide (decS x ∈ allSay fs s)) _) ?_
    simp only [backE, keepF, List.getD_cons_zero, List.getD_cons_succ, List.set_cons_zero, List.set_cons_succ]
    walk_at "pl_vs"
    · rename_i hm
      have hm : decS a ∈ allSay fs s ∧ decS b ∈ allSay fs s := by simpa using hm
      have e : unseenB fs xs s a b = (seen xs (decS a) (decS b)).isNone := by
        unfold unseenB
        simp [h.1, h.2, hm.1, hm.2]
      have ea := isSay_dec h.1
      have eb := isSay_dec h.2
      rw [ea, eb]
      refine c_seen_together (hi.ways _ hm.1) (hi.ways _ hm.2) (hi.inn _ hm.1) (hi.inn _ hm.2) ?_
      walk_at "pl_vs"
      rw [e] at q
      rw [isNon_optT]
      cases hs : seen xs (decS a) (decS b) <;> rw [hs] at q <;> exact q
    · rename_i hm
      have e : unseenB fs xs s a b = false := by
        unfold unseenB
        simp only [h.1, h.2, Bool.true_and]
        cases d1 : decide (decS a ∈ allSay fs s) <;> cases d2 : decide (decS b ∈ allSay fs s) <;> simp [d1, d2] at hm ⊢
      rw [e] at q
      exact q
end

/-! k79: a paper of the hull judged. -/
def isStr (x : Str) : T → Bool
  | .str y => decide (y = x)
  | _ => false
/-- is a thing right paper for the sheet -/
def isHull (fs : List Fld) (xs : List Sheet) (s : Sheet) : T → Bool
  | .tup [a, r] => isStr (Str.ofString "in") a && makesB xs s r
  | .tup [a, y, z] => isStr (Str.ofString "out") a && unseenB fs xs s y z
  | _ => false
def P_is_hull (ts : List T) (K : T → Prop) : Prop := ∃ fs xs s t, ts = [fsT fs, xsT xs, sT s, t] ∧ isF t = true ∧ HullIn fs xs s ∧ (∀ a ls k, t = .tup [a, .tup [.tup ls, k]] → xs.length + ls.length ≤ sizeLine) ∧ (∀ xs', t = .tup xs' → ∀ a r, xs' = a :: r → ∃ x, a = .str x ∧ shp a = true) ∧ K (.bl (isHull fs xs s t))
theorem c_makes {xs : List Sheet} {s : Sheet} {t : T} {K : T → Prop} (f : isF t = true) (b : ∀ ls k, t = .tup [.tup ls, k] → xs.length + ls.length ≤ sizeLine) (k : K (.bl (makesB xs s t))) : P_makes [xsT xs, sT s, t] K := ⟨xs, s, t, rfl, f, b, k⟩
theorem c_are_unseen {fs : List Fld} {xs : List Sheet} {s : Sheet} {a b : T} {K : T → Prop} (f : isF a = true) (g : isF b = true) (h : HullIn fs xs s) (k : K (.bl (unseenB fs xs s a b))) : P_are_unseen [fsT fs, xsT xs, sT s, .tup [a, b]] K := ⟨fs, xs, s, a, b, rfl, f, g, h, k⟩
section
variable {Φ : Nat → Spec}
theorem v_is_hull (h2 : Φ 2 = spF P_tuple_of) (h13 : Φ 13 = spF P_makes) (h19 : Φ 19 = spF P_are_unseen) : VC Φ [false, false, false, false] P_is_hull il_is_hull 4 := by
  rintro ts Q - - ⟨fs, xs, s, t, rfl, ft, hi, hb, hs, q⟩
  show wpSs Φ il_is_hull _ [some (fsT fs), some (xsT xs), some (sT s), some t]
  unfold il_is_hull
  have s1 : shp (.str (Str.ofString "in")) = true := by decide +kernel
  have s2 : shp (.str (Str.ofString "out")) = true := by decide +kernel
  walk_at "pl_vs"
  · rename_i h
    obtain ⟨us, rfl, l⟩ := tupOf_of h
    match us, (show us.length = 2 by omega) with
    | [a, r], _ =>
      obtain ⟨x, rfl, sx⟩ := hs _ rfl _ _ rfl
      have fr : isF r = true := isFs_mem (isF_tupD ft) (by simp)
      walk_at "pl_vs"
      · rename_i hx
        refine c_makes fr (fun ls k e => hb _ ls k (by rw [e])) ?_
        walk_at "pl_vs"
        have : isHull fs xs s (.tup [.str x, r]) = makesB xs s r := by simp [isHull, isStr, hx]
        rw [this] at q
        exact q
      · rename_i hx
        have : isHull fs xs s (.tup [.str x, r]) = false := by simp [isHull, isStr, hx]
        rw [this] at q
        exact q
  · rename_i h h3
    · obtain ⟨us, rfl, l⟩ := tupOf_of h3
      match us, (show us.length = 3 by omega) with
      | [a, y, z], _ =>
        obtain ⟨x, rfl, sx⟩ := hs _ rfl _ _ rfl
        have fy : isF y = true := isFs_mem (isF_tupD ft) (by simp)
        have fz : isF z = true := isFs_mem (isF_tupD ft) (by simp)
        have ec : slP.cutV' [T.str x, y, z] (some 1) none = [y, z] := cut_from (i := 1) (by simp)
        have fc : isFs (slP.cutV' [T.str x, y, z] (some 1) none) = true := by
          rw [ec]
          exact isFs_cons fy (isFs_cons fz isFs_nil)
        walk_at "pl_vs"
        · rename_i hx
          rw [ec]
          refine c_are_unseen fy fz hi ?_
          walk_at "pl_vs"
          have : isHull fs xs s (.tup [.str x, y, z]) = unseenB fs xs s y z := by simp [isHull, isStr, hx]
          rw [this] at q
          exact q
        · rename_i hx
          have : isHull fs xs s (.tup [.str x, y, z]) = false := by simp [isHull, isStr, hx]
          rw [this] at q
          exact q
  · rename_i h h3
    · have n2 : ∀ a r, t ≠ .tup [a, r] := fun a r e => by rw [e] at h; simp [tupOf] at h
      have : isHull fs xs s t = false := by
        unfold isHull
        split
        · exact absurd rfl (n2 _ _)
        · simp [tupOf] at h3
        · rfl
      rw [this] at q
      exact q
end

/-! k79: the law's own defs, the small ones. -/
/-- the law's cells -/
def cellsT (cs : List Int) : T := .lst false (cs.map T.int)
def P_pick (ts : List T) (K : T → Prop) : Prop := ∃ cs i n, ts = [cellsT cs, .int i, .int n] ∧ 0 < cs.length ∧ 0 < n ∧ ∀ r, 0 ≤ r → r < n → K (.int r)
theorem c_pick {cs : List Int} {i n : Int} {K : T → Prop} (h : 0 < cs.length) (p : 0 < n) (k : ∀ r, 0 ≤ r → r < n → K (.int r)) : P_pick [cellsT cs, .int i, .int n] K := ⟨cs, i, n, rfl, h, p, k⟩
section
variable {Φ : Nat → Spec}
theorem v_pick : VC Φ [false, false, false] P_pick il__law_pick 3 := by
  rintro ts Q - - ⟨cs, i, n, rfl, h, p, q⟩
  show wpSs Φ il__law_pick _ [some (.lst false (cs.map T.int)), some (.int i), some (.int n)]
  unfold il__law_pick
  have fc := isF_ints cs
  have hl : (0 : Int) < ((cs.map T.int).length : Int) := by rw [List.length_map]; omega
  have m0 := Int.emod_nonneg i (Int.ne_of_gt hl)
  have m1 := Int.emod_lt_of_pos i hl
  rw [List.length_map] at m1 m0
  obtain ⟨c, hc⟩ := atI_some (xs := cs) m0 m1
  have i0 : idxT (.lst false (cs.map T.int)) (.int (i % ((cs.map T.int).length : Int))) = some (.int c) := by
    rw [List.length_map]
    exact atI_map hc
  walk_at "pl_vs"
  exact q _ (Int.emod_nonneg _ (by omega)) (Int.emod_lt_of_pos _ p)
theorem v_law_middle : VC Φ [false, false, false] P_middle_of il__law_middle 6 := by
  rintro ts Q - - ⟨a, b, c, rfl, q⟩
  show wpSs Φ il__law_middle _ [some (.tup (a.map T.int)), some (.tup (b.map T.int)), some (.tup (c.map T.int)), none, none, none]
  unfold il__law_middle
  have fa := isF_ints a
  have fb := isF_ints b
  have fc := isF_ints c
  walk_at "pl_vs"
  refine k_lcM midT (fun x hx Kk k => ?_) ?_
  · obtain ⟨i, j, l, rfl⟩ := zip3_mem hx
    unfold kTurn
    simp only [wipeE, List.set_cons_zero, List.set_cons_succ]
    walk_at "pl_vs"
    refine b_sortL rfl (sortable_ints [i, j, l]) ?_
    refine w_int ?_
    refine k_lookT ?_
    refine k_idx (v := .int (med i j l)) ?_ rfl ?_
    · show idxT (.lst true (([i, j, l].map T.int).mergeSort _)) _ = _
      rw [sort_ints]
      have := sort3 i j l
      show L2.atI (([i, j, l].mergeSort fun a b => decide (a ≤ b)).map T.int) 1 = _
      exact atI_map (atI_nat (by decide) this)
    · walk_at "pl_vs"
      exact k _ rfl
  · rw [mid_map]
    simp only [backE, keepF, List.getD_cons_zero, List.getD_cons_succ, List.set_cons_zero, List.set_cons_succ]
    have := isF_ints (mid a b c)
    walk_at "pl_vs"
    exact q
theorem v_law_holds : VC Φ [false, false] P_holds_in il__law_holds 2 := by
  rintro ts Q - - ⟨y, s, a, rfl, w, h, q⟩
  show wpSs Φ il__law_holds _ [some (.tup [.int y.1, .int y.2.1, .int y.2.2]), some (sT s)]
  unfold il__law_holds
  have w1 : -(2 ^ 64) < y.2.1 ∧ y.2.1 < 2 ^ 64 := by rcases w with h | h <;> rw [h] <;> decide
  have i1 := ix_sT h
  walk_at "pl_vs"
  exact q
end

/-! k79: an answer between, or the other end. -/
def P_between (ts : List T) (K : T → Prop) : Prop := ∃ cs i f e, ts = [cellsT cs, .int i, fldT f, .int e] ∧ 0 < cs.length ∧ f.2.1 < f.2.2 ∧ ∀ r, f.2.1 ≤ r → r ≤ f.2.2 → (e = f.2.1 → f.2.1 < r) → (e ≠ f.2.1 → r < f.2.2) → K (.int r)
theorem c_between {cs : List Int} {i e : Int} {f : Fld} {K : T → Prop} (h : 0 < cs.length) (p : f.2.1 < f.2.2) (k : ∀ r, f.2.1 ≤ r → r ≤ f.2.2 → (e = f.2.1 → f.2.1 < r) → (e ≠ f.2.1 → r < f.2.2) → K (.int r)) : P_between [cellsT cs, .int i, fldT f, .int e] K := ⟨cs, i, f, e, rfl, h, p, k⟩
theorem isF_cellsT {cs : List Int} : isF (cellsT cs) = true := isF_lst (isF_ints cs)
theorem isF_fldT {f : Fld} : isF (fldT f) = true := rfl
local macro_rules | `(tactic| walk_at "pl_isf1") => `(tactic| first | with_reducible exact isF_cellsT | with_reducible exact isF_fldT)
section
variable {Φ : Nat → Spec}
theorem v_between (h22 : Φ 22 = spF P_pick) : VC Φ [false, false, false, false] P_between il__law_between 4 := by
  rintro ts Q - - ⟨cs, i, f, e, rfl, h, p, q⟩
  show wpSs Φ il__law_between _ [some (cellsT cs), some (.int i), some (.tup [.str f.1, .int f.2.1, .int f.2.2]), some (.int e)]
  unfold il__law_between
  walk_at "pl_vs"
  · rename_i he
    refine c_pick h (by omega) fun r h0 h1 => ?_
    walk_at "pl_vs"
    exact q _ (by omega) (by omega) (fun _ => by omega) (fun hn => absurd he hn)
  · rename_i he
    refine c_pick h (by omega) fun r h0 h1 => ?_
    walk_at "pl_vs"
    exact q _ (by omega) (by omega) (fun hn => absurd hn he) (fun _ => by omega)
end

/-! k79: the recipe. -/
theorem rng_get {N i : Nat} {m : Int} {x : T} (h : ((List.range N).map fun (k : Nat) => T.int (m + k))[i]? = some x) : i < N ∧ x = .int (m + i) := by
  rw [List.getElem?_map] at h
  obtain ⟨p, hp, rfl⟩ := Option.map_eq_some_iff.mp h
  obtain ⟨hr, e0⟩ := List.getElem?_eq_some_iff.mp hp
  rw [List.getElem_range] at e0
  subst e0
  rw [List.length_range] at hr
  exact ⟨hr, rfl⟩
theorem rng0_get {N i : Nat} {x : T} (h : ((List.range N).map fun (k : Nat) => T.int k)[i]? = some x) : i < N ∧ x = .int (i : Nat) := by
  rw [List.getElem?_map] at h
  obtain ⟨p, hp, rfl⟩ := Option.map_eq_some_iff.mp h
  obtain ⟨hr, e0⟩ := List.getElem?_eq_some_iff.mp hp
  rw [List.getElem_range] at e0
  subst e0
  rw [List.length_range] at hr
  exact ⟨hr, rfl⟩
theorem isLines_app {ls : List T} : ∀ {n : Int} {l : T}, isLines n (ls ++ [l]) = (isLines n ls && isLine (n + ls.length) l) := by
  induction ls with
  | nil => intro n l; simp [isLines]
  | cons x xs ih =>
    intro n l
    rw [List.cons_append, isLines_cons, isLines_cons, ih, Bool.and_assoc, List.length_cons]
    congr 3
    push_cast
    omega
theorem things_snoc {a b c : Sheet} {l : Say} : ∀ {ls : List Say} {xs out : List Sheet}, thingsOf xs ls = some out → L2.atI out l.1 = some a → L2.atI out l.2.1 = some b → L2.atI out l.2.2 = some c → thingsOf xs (ls ++ [l]) = some (out ++ [mid a b c])
  | [], xs, out, h, ha, hb, hc => by
    simp only [thingsOf] at h
    cases h
    simp only [List.nil_append, thingsOf, ha, hb, hc]
  | x :: ls, xs, out, h, ha, hb, hc => by
    rw [List.cons_append]
    unfold thingsOf at h
    split at h
    · rename_i a' b' c' h1 h2 h3
      rw [thingsOf.eq_2]
      simp only [h1, h2, h3]
      exact things_snoc h ha hb hc
    · cases h
/-- the lines so far, and the things -/
structure RI (fs : List Fld) (xs : List Sheet) (ls : List Say) (out : List Sheet) : Prop where
  th : thingsOf xs ls = some out
  len : out.length = xs.length + ls.length
  ok : isLines xs.length (ls.map yT) = true
  box : ∀ m ∈ out, Box fs m
  pre : ∀ (i : Nat) x, xs[i]? = some x → out[i]? = some x
theorem RI.snoc {fs : List Fld} {xs : List Sheet} {ls : List Say} {out : List Sheet} (R : RI fs xs ls out) {i j k : Nat} {a b c : Sheet} (ha : out[i]? = some a) (hb : out[j]? = some b) (hc : out[k]? = some c) : RI fs xs (ls ++ [((i : Int), (j : Int), (k : Int))]) (out ++ [mid a b c]) := by
  have la := (List.getElem?_eq_some_iff.mp ha).1
  have lb := (List.getElem?_eq_some_iff.mp hb).1
  have lc := (List.getElem?_eq_some_iff.mp hc).1
  have hl := R.len
  refine ⟨things_snoc R.th (by rw [atI_cast]; exact ha) (by rw [atI_cast]; exact hb) (by rw [atI_cast]; exact hc), by simp; omega, ?_, fun m hm => ?_, fun i x h => ?_⟩
  · rw [List.map_append, List.map_cons, List.map_nil, isLines_app, R.ok, Bool.true_and]
    simp only [yT, isLine, within, List.length_map, Bool.and_eq_true, decide_eq_true_eq]
    omega
  · rcases List.mem_append.mp hm with z | z
    · exact R.box m z
    · simp only [List.mem_singleton] at z
      subst z
      exact mid_box (R.box _ (List.mem_of_getElem? ha)) (R.box _ (List.mem_of_getElem? hb)) (R.box _ (List.mem_of_getElem? hc))
  · have := R.pre i x h
    rw [List.getElem?_append_left (List.getElem?_eq_some_iff.mp this).1]
    exact this
/-- a thing with the first k sayings and a further one -/
def Gd (A : List Say) (out : List Sheet) (k r : Nat) (z : Say) : Prop := ∃ m, out[r]? = some m ∧ (∀ y ∈ A.take k, has y m = true) ∧ has z m = true
theorem Gd.app {A : List Say} {out : List Sheet} {k r : Nat} {z : Say} (g : Gd A out k r z) (m : Sheet) : Gd A (out ++ [m]) k r z := by
  obtain ⟨x, h1, h2⟩ := g
  refine ⟨x, ?_, h2⟩
  rw [List.getElem?_append_left (List.getElem?_eq_some_iff.mp h1).1]
  exact h1
theorem Gd.step {fs : List Fld} {xs : List Sheet} {ls : List Say} {out : List Sheet} (R : RI fs xs ls out) {A : List Say} (hA : ∀ y ∈ A, Sy fs.length y) {k r r' : Nat} {u z : Say} (hu : A[k]? = some u) (hz : z ∈ A) (g : Gd A out k r u) (g' : Gd A out k r' z) {q : Nat} {x : Sheet} (hq : out[q]? = some x) (x1 : has u x = true) (x2 : has z x = true) :
    ∃ a b, out[r]? = some a ∧ out[r']? = some b ∧ Gd A (out ++ [mid a b x]) (k + 1) out.length z := by
  obtain ⟨a, ha, a1, a2⟩ := g
  obtain ⟨b, hb, b1, b2⟩ := g'
  have la := (R.box _ (List.mem_of_getElem? ha)).len
  have lb := (R.box _ (List.mem_of_getElem? hb)).len
  have lx := (R.box _ (List.mem_of_getElem? hq)).len
  have mu := List.mem_of_getElem? hu
  refine ⟨a, b, ha, hb, mid a b x, by simp, fun y hy => ?_, ?_⟩
  · rw [List.take_add_one, hu] at hy
    rcases List.mem_append.mp hy with h | h
    · rw [has_mid' (hA _ (List.mem_of_mem_take h)) la lb lx, a1 y h, b1 y h]; rfl
    · simp only [Option.toList_some, List.mem_singleton] at h
      subst h
      rw [has_mid' (hA _ mu) la lb lx, a2, x1]
      cases has y b <;> rfl
  · rw [has_mid' (hA _ hz) la lb lx, b2, x2]
    cases has z a <;> rfl
/-- the row behind k rounds -/
def Rw (A : List Say) (out : List Sheet) (k : Nat) (row : List Nat) : Prop := row.length = A.length ∧ ∀ j z r, k ≤ j + 1 → A[j]? = some z → row[j]? = some r → Gd A out k r z
def natsT (r : List Nat) : List T := r.map fun (k : Nat) => T.int k
theorem isFs_natsT {r : List Nat} : isFs (natsT r) = true := isFs_map fun _ => rfl
local macro_rules | `(tactic| walk_at "pl_isf1") => `(tactic| with_reducible exact isFs_natsT)
theorem ix_nats {o : Bool} {r : List Nat} {i k : Nat} (h : r[i]? = some k) : idxT (.lst o (natsT r)) (.int (i : Nat)) = some (.int (k : Nat)) := by
  show L2.atI (r.map fun (k : Nat) => T.int k) _ = _
  rw [atI_cast, List.getElem?_map, h]
  rfl
theorem ix_yTs {o : Bool} {A : List Say} {i : Nat} {y : Say} (h : A[i]? = some y) : idxT (.lst o (A.map yT)) (.int (i : Nat)) = some (yT y) := by
  show L2.atI (A.map yT) _ = _
  rw [atI_cast, List.getElem?_map, h]
  rfl
theorem set_nats {r : List Nat} {i k : Nat} : (natsT r).set i (.int (k : Nat)) = natsT (r.set i k) := by
  unfold natsT
  rw [List.map_set]
theorem ixN_cast {n i : Nat} (h : i < n) : L2.ixN n (i : Nat) = some i := by
  unfold L2.ixN
  rw [if_pos (by omega), if_pos (by omega)]
  simp
section
variable {Φ : Nat → Spec}
theorem v_recipe_for (h14 : Φ 14 = spF P_seen_together) (h15 : Φ 15 = spF P_all_sayings) : VC Φ [false, false, false] P_recipe_for il_recipe_for 10 := by
  rintro ts Q - - ⟨fs, xs, s, rfl, hc, al, q⟩
  show wpSs Φ il_recipe_for _ [some (fsT fs), some (xsT xs), some (sT s), none, none, none, none, none, none, none]
  unfold il_recipe_for
  have hi := hc.hull
  have iy := isFs_yT (allSay fs s)
  have hA : ∀ y ∈ allSay fs s, Sy fs.length y := fun y h => allSay_Sy h
  have own : ∀ m, Box fs m → (∀ y ∈ allSay fs s, has y m = true) → m = s := fun m bm h => all_own hc.bs bm h
  have hA12 : (allSay fs s).length ≤ 24 := by
    have := allSay_len fs s
    have := hc.few
    have := hc.bs.len
    omega
  have hw := hi.ways
  have hn := hi.inn
  have sl : sizeLine = 16777216 := rfl
  have cap := hc.cap
  walk_at "pl_vs"
  refine c_all_sayings hi.len hi.cap ?_
  refine k_bind rfl ?_
  refine s_cons ?_
  refine s_frz rfl ?_
  simp only [List.set_cons_zero, List.set_cons_succ]
  rw [show fz (.lst true ((allSay fs s).map yT)) = .lst false ((allSay fs s).map yT) from congrArg (T.lst false) (fzs_of_isF _ iy)]
  unfold AllSeen at al
  generalize allSay fs s = A at *
  have R0 : RI fs xs [] xs := ⟨rfl, by simp, rfl, hc.bx, fun _ _ h => h⟩
  have sn : ∀ y ∈ A, ∀ z ∈ A, ∃ (k : Nat) (x : Sheet), seen xs y z = some k ∧ xs[k]? = some x ∧ has y x = true ∧ has z x = true := fun y hy z hz => by
    obtain ⟨k, hk⟩ := Option.isSome_iff_exists.mp (al y hy z hz)
    obtain ⟨h1, h2, -⟩ := List.findIdx?_eq_some_iff_getElem.mp hk
    exact ⟨k, xs[k], hk, List.getElem?_eq_getElem h1, by simpa using h2⟩
  walk_at "pl_vs"
  · rename_i he
    have he : A = [] := by
      cases A with
      | nil => rfl
      | cons _ _ => simp at he
    subst he
    obtain ⟨x, hx⟩ := List.exists_mem_of_ne_nil _ hc.ne
    have hl : 0 < xs.length := List.length_pos_of_mem hx
    refine q [] 0 (by decide) ?_ ?_
    · simp only [recT, linesT, List.map_nil, isRec, isLines, within, Bool.true_and, List.length_nil]
      exact decide_eq_true (by omega)
    · show L2.atI xs ((0 : Nat) : Int) = some s
      rw [atI_cast, List.getElem?_eq_getElem hl, own xs[0] (hc.bx _ (List.getElem_mem hl)) (by simp)]
  · rename_i he
    obtain ⟨u, A', hA'⟩ : ∃ u A', A = u :: A' := by
      cases A with
      | nil => simp at he
      | cons u A' => exact ⟨u, A', rfl⟩
    have hu : A[0]? = some u := by rw [hA']; rfl
    have mu : u ∈ A := List.mem_of_getElem? hu
    have i0 : idxT (.lst false (A.map yT)) (.int 0) = some (yT u) := ix_yTs (i := 0) hu
    refine k_lcM (fun x => .int ((seen xs u (decS x)).getD 0 : Nat)) (fun x hx Kk k => ?_) ?_
    · obtain ⟨z, hz, rfl⟩ := List.mem_map.mp hx
      obtain ⟨r, x, h1, h2, h3, h4⟩ := sn u mu z hz
      unfold kTurn
      simp only [wipeE, List.set_cons_zero, List.set_cons_succ]
      walk_at "pl_vs"
      refine c_seen_together (hw _ mu) (hw _ hz) (hn _ mu) (hn _ hz) ?_
      rw [h1, show optT (some r) = T.int (r : Nat) from rfl]
      walk_at "pl_vs"
      have := k [some (fsT fs), some (xsT xs), some (sT s), some (.lst false (A.map yT)), some (.lst true []), none, some (yT z), none, none, none] rfl
      rw [show decS (yT z) = z from rfl, h1] at this
      exact this
    simp only [backE, keepF, List.getD_cons_zero, List.getD_cons_succ, List.set_cons_zero, List.set_cons_succ]
    have e0 : (A.map yT).map (fun x => T.int ((seen xs u (decS x)).getD 0 : Nat)) = natsT (A.map fun z => (seen xs u z).getD 0) := by
      unfold natsT
      rw [List.map_map, List.map_map]
      rfl
    rw [e0]
    have Rw0 : Rw A xs 1 (A.map fun z => (seen xs u z).getD 0) := by
      refine ⟨by simp, fun j z r _ hz hr => ?_⟩
      rw [List.getElem?_map, hz] at hr
      cases hr
      obtain ⟨r, x, h1, h2, h3, h4⟩ := sn u mu z (List.mem_of_getElem? hz)
      simp only [h1, Option.getD_some]
      refine ⟨x, h2, fun y hy => ?_, h4⟩
      rw [hA'] at hy
      simp only [List.take_succ_cons, List.take_zero, List.mem_singleton] at hy
      subst hy
      exact h3
    generalize (A.map fun z => (seen xs u z).getD 0) = row0 at *
    walk_at "pl_vs"
    refine ⟨_, _, rfl, rfl, ⟨by decide, by decide, by omega, by rw [List.length_map]; omega⟩, ?_⟩
    rw [List.length_map]
    have An : A.length = A'.length + 1 := by rw [hA']; rfl
    rw [show ((A.length : Int) - 1).toNat = A'.length by omega]
    refine k_for (fun i Γ => ∃ ls out row, RI fs xs ls out ∧ Rw A out (i + 1) row ∧ ls.length ≤ i * 24 ∧ Γ = [some (fsT fs), some (xsT xs), some (sT s), some (.lst false (A.map yT)), some (.lst true (ls.map yT)), some (.lst true (natsT row)), none, none, none, none]) ⟨[], xs, row0, R0, Rw0, by simp, rfl⟩ ?_ ?_
    · rintro i x Γ hx ⟨ls, out, row, R, W, hls, rfl⟩ again ag
      obtain ⟨hiA, rfl⟩ := rng_get hx
      rw [show (1 : Int) + (i : Int) = ((i + 1 : Nat) : Int) by push_cast; omega]
      have hv : A[i + 1]? = some (A[i + 1]'(by omega)) := List.getElem?_eq_getElem (by omega)
      generalize A[i + 1]'_ = v at hv
      have mv := List.mem_of_getElem? hv
      have hr : row[i + 1]? = some (row[i + 1]'(by rw [W.1]; omega)) := List.getElem?_eq_getElem (by rw [W.1]; omega)
      generalize row[i + 1]'_ = r at hr
      have i1 := ix_yTs (o := false) hv
      have i2 := ix_nats (o := true) hr
      walk_at "pl_vs"
      refine ⟨_, _, rfl, rfl, ⟨by omega, by omega, by omega, by rw [List.length_map]; omega⟩, ?_⟩
      rw [List.length_map]
      rw [show ((A.length : Int) - ((i + 1 : Nat) : Int)).toNat = A.length - (i + 1) by omega]
      refine k_for (fun j Γ => ∃ ls' out' made, RI fs xs ls' out' ∧ (∀ r z, Gd A out (i + 1) r z → Gd A out' (i + 1) r z) ∧ ls'.length = ls.length + j ∧ made.length = A.length ∧ (∀ p z r, i + 1 ≤ p → p < i + 1 + j → A[p]? = some z → made[p]? = some r → Gd A out' (i + 2) r z) ∧
        Γ = [some (fsT fs), some (xsT xs), some (sT s), some (.lst false (A.map yT)), some (.lst true (ls'.map yT)), some (.lst true (natsT row)), none, some (.int ((i + 1 : Nat) : Int)), some (.lst true (natsT made)), none]) ⟨ls, out, row, R, fun _ _ h => h, by simp, W.1, fun p z r h1 h2 => by omega, rfl⟩ ?_ ?_
      · rintro j x Γ hx ⟨ls', out', made, R', mono, hls', hm, hG, rfl⟩ again ag
        obtain ⟨hj, rfl⟩ := rng_get hx
        rw [show ((i + 1 : Nat) : Int) + (j : Int) = ((i + 1 + j : Nat) : Int) by push_cast; omega]
        have hz : A[i + 1 + j]? = some (A[i + 1 + j]'(by omega)) := List.getElem?_eq_getElem (by omega)
        generalize A[i + 1 + j]'_ = z at hz
        have mz := List.mem_of_getElem? hz
        have hr' : row[i + 1 + j]? = some (row[i + 1 + j]'(by rw [W.1]; omega)) := List.getElem?_eq_getElem (by rw [W.1]; omega)
        generalize row[i + 1 + j]'_ = r' at hr'
        have i3 := ix_yTs (o := false) hz
        have i4 := ix_nats (o := true) hr'
        obtain ⟨w, x, h1, h2, h3, h4⟩ := sn v mv z mz
        have hox := R'.pre _ _ h2
        have g1 := mono _ _ (W.2 (i + 1) v r (by omega) hv hr)
        have g2 := mono _ _ (W.2 (i + 1 + j) z r' (by omega) hz hr')
        obtain ⟨a, b, ha, hb, g3⟩ := Gd.step R' hA hv mz g1 g2 hox h3 h4
        have R2 := R'.snoc ha hb hox
        have hl2 : (ls'.map yT).length < sizeLine := by
          rw [List.length_map]
          have : i * 24 ≤ 24 * 24 := Nat.mul_le_mul_right _ (by omega)
          omega
        walk_at "pl_vs"
        refine c_seen_together (hw _ mv) (hw _ mz) (hn _ mv) (hn _ mz) ?_
        rw [h1, show optT (some w) = T.int (w : Nat) from rfl]
        walk_at "pl_vs"
        refine ⟨⟨_, rfl⟩, ?_⟩
        walk_at "pl_vs"
        have hlen : ((((xs.map sT).length : Nat) : Int) + (((ls'.map yT ++ [T.tup [.int (r : Nat), .int (r' : Nat), .int (w : Nat)]]).length : Nat) : Int) - 1) = ((out'.length : Nat) : Int) := by
          have := R'.len
          simp only [List.length_append, List.length_map, List.length_cons, List.length_nil]
          omega
        rw [hlen]
        refine k_setL rfl rfl (ixN_cast (i := i + 1 + j) (by unfold natsT; rw [List.length_map, hm]; omega)) ?_
        rw [set_nats]
        walk_at "pl_vs"
        refine ag _ ⟨ls' ++ [((r : Int), (r' : Int), (w : Int))], out' ++ [mid a b x], made.set (i + 1 + j) out'.length, R2, fun r z h => (mono r z h).app _, by simp; omega, by simpa using hm, fun p z2 r2 p1 p2 hz2 hr2 => ?_, ?_⟩
        · by_cases hp : p = i + 1 + j
          · subst hp
            rw [hz] at hz2
            cases hz2
            rw [List.getElem?_set_self (by omega)] at hr2
            cases hr2
            exact g3
          · rw [List.getElem?_set_ne (by omega)] at hr2
            exact (hG p z2 r2 p1 (by omega) hz2 hr2).app _
        · rw [List.map_append]
          rfl
      · rintro Γ ⟨ls', out', made, R', mono, hls', hm, hG, rfl⟩
        simp only [List.length_map, List.length_range] at hls' hG
        walk_at "pl_vs"
        refine ag _ ⟨ls', out', made, R', ⟨hm, fun j z r h1 h2 h3 => ?_⟩, by omega, rfl⟩
        have := (List.getElem?_eq_some_iff.mp h2).1
        exact hG j z r (by omega) (by omega) h2 h3
    · rintro Γ ⟨ls, out, row, R, W, hls, rfl⟩
      simp only [List.length_map, List.length_range] at hls W
      have hz : A[A'.length]? = some (A[A'.length]'(by omega)) := List.getElem?_eq_getElem (by omega)
      generalize A[A'.length]'_ = z at hz
      have hr : row[A'.length]? = some (row[A'.length]'(by rw [W.1]; omega)) := List.getElem?_eq_getElem (by rw [W.1]; omega)
      generalize row[A'.length]'_ = r at hr
      obtain ⟨m, g1, g2, g3⟩ := W.2 A'.length z r (by omega) hz hr
      have im : idxT (.lst true (natsT row)) (.int (-1)) = some (.int (r : Nat)) := by
        show L2.atI (row.map fun (k : Nat) => T.int k) _ = _
        unfold L2.atI L2.ixN
        rw [if_neg (by decide), List.length_map, W.1, if_pos (by omega)]
        simp only [Option.bind_some]
        rw [show ((-1 : Int) + (A.length : Int)).toNat = A'.length by omega, List.getElem?_map, hr]
        rfl
      walk_at "pl_vs"
      have hl := (List.getElem?_eq_some_iff.mp g1).1
      have em : m = s := own m (R.box _ (List.mem_of_getElem? g1)) fun y hy => g2 y (by rw [List.take_of_length_le (by omega)]; exact hy)
      subst em
      refine q ls r (by omega) ?_ ?_
      · have := R.len
        simp only [recT, linesT, isRec, R.ok, within, Bool.true_and, List.length_map]
        exact decide_eq_true (by omega)
      · unfold madeBy
        rw [R.th]
        show L2.atI out r = _
        rw [atI_cast]
        exact g1
end

/-! k80: what k79's texts have in common with it. -/
def P_law_sayings (ts : List T) (K : T → Prop) : Prop := ∃ fs s, ts = [fsT fs, sT s] ∧ s.length = fs.length ∧ fs.length ≤ 12 ∧ K (.lst true ((allSay fs s).map yT))
theorem c_law_sayings {fs : List Fld} {s : Sheet} {K : T → Prop} (h : s.length = fs.length) (l : fs.length ≤ 12) (k : K (.lst true ((allSay fs s).map yT))) : P_law_sayings [fsT fs, sT s] K := ⟨fs, s, rfl, h, l, k⟩
def pT (p : Say × Say) : T := .tup [yT p.1, yT p.2]
def P_law_run (ts : List T) (K : T → Prop) : Prop := ∃ xs ls k m, ts = [xsT xs, recT ls k] ∧ isRec xs.length (recT ls k) = true ∧ madeBy xs ls k = some m ∧ xs.length + ls.length < sizeLine ∧ K (sT m)
theorem c_law_run {xs : List Sheet} {ls : List Say} {k : Int} {m : Sheet} {K : T → Prop} (h : isRec xs.length (recT ls k) = true) (e : madeBy xs ls k = some m) (l : xs.length + ls.length < sizeLine) (q : K (sT m)) : P_law_run [xsT xs, recT ls k] K := ⟨xs, ls, k, m, rfl, h, e, l, q⟩
theorem isRec_of {n : Int} {ls : List Say} {k : Int} (h : isRec n (recT ls k) = true) : isLines n (ls.map yT) = true ∧ 0 ≤ k ∧ k < n + ls.length := by
  simp only [recT, linesT, isRec, within, Bool.and_eq_true, decide_eq_true_eq, List.length_map] at h
  exact ⟨h.1, by omega, by omega⟩
theorem isLine_yT {n : Int} {y : Say} (h : isLine n (yT y) = true) : (0 ≤ y.1 ∧ y.1 < n) ∧ (0 ≤ y.2.1 ∧ y.2.1 < n) ∧ (0 ≤ y.2.2 ∧ y.2.2 < n) := by
  simp only [yT, isLine, within, Bool.and_eq_true, decide_eq_true_eq] at h
  omega
theorem k_tyT {ty : Ty} {x : T} {A B : Prop} (h : isTy ty x = true) (k : A) : kIf (isTy ty x) A B := k_if (fun _ => k) fun e => by rw [h] at e; cases e
theorem k_tyF {ty : Ty} {x : T} {A B : Prop} (h : isTy ty x = false) (k : B) : kIf (isTy ty x) A B := k_if (fun e => by rw [h] at e; cases e) fun _ => k
theorem k_ntyT {ty : Ty} {x : T} {A B : Prop} (h : isTy ty x = true) (k : B) : kIf (!isTy ty x) A B := k_if (fun e => by rw [h] at e; cases e) fun _ => k
theorem k_ntyF {ty : Ty} {x : T} {A B : Prop} (h : isTy ty x = false) (k : A) : kIf (!isTy ty x) A B := k_if (fun _ => k) fun e => by rw [h] at e; cases e
theorem k_dT {p : Prop} [Decidable p] {A B : Prop} (h : p) (k : A) : kIf (decide p) A B := k_ifD (fun _ => k) fun e => absurd h e
theorem k_dF {p : Prop} [Decidable p] {A B : Prop} (h : ¬ p) (k : B) : kIf (decide p) A B := k_ifD (fun e => absurd e h) fun _ => k
theorem k_ndT {p : Prop} [Decidable p] {A B : Prop} (h : p) (k : B) : kIf (!decide p) A B := k_ifN (fun e => absurd h e) fun _ => k
theorem k_ndF {p : Prop} [Decidable p] {A B : Prop} (h : ¬ p) (k : A) : kIf (!decide p) A B := k_ifN (fun _ => k) fun e => absurd e h
theorem in_out : ¬ Str.ofString "in" = Str.ofString "out" := by decide +kernel
theorem out_in : ¬ Str.ofString "out" = Str.ofString "in" := by decide +kernel
local macro_rules | `(tactic| walk_at "pl_vZ") => `(tactic| (focus (first | with_reducible exact rfl | with_reducible exact in_out | with_reducible exact out_in | (simp only [List.length_cons, List.length_nil]; decide))))
local macro_rules | `(tactic| walk_at "pl_vc1") => `(tactic| first
  | ((with_reducible apply k_tyT); (focus exact rfl)) | ((with_reducible apply k_tyF); (focus exact rfl)) | ((with_reducible apply k_ntyT); (focus exact rfl)) | ((with_reducible apply k_ntyF); (focus exact rfl))
  | ((with_reducible apply k_dT); walk_at "pl_vZ") | ((with_reducible apply k_dF); walk_at "pl_vZ") | ((with_reducible apply k_ndT); walk_at "pl_vZ") | ((with_reducible apply k_ndF); walk_at "pl_vZ"))
structure Askable (xs : List Sheet) (w : T) : Prop where
  f : isF w = true
  few : ∀ a ls k, w = .tup [a, .tup [.tup ls, k]] → xs.length + ls.length ≤ sizeLine
  word : ∀ us, w = .tup us → ∀ a r, us = a :: r → ∃ x, a = .str x ∧ shp a = true
theorem c_is_hull {fs : List Fld} {xs : List Sheet} {s : Sheet} {w : T} {K : T → Prop} (c : Cx fs xs s) (a : Askable xs w) (k : K (.bl (isHull fs xs s w))) : P_is_hull [fsT fs, xsT xs, sT s, w] K := ⟨fs, xs, s, w, rfl, a.f, c.hull, a.few, a.word, k⟩
def Bad (fs : List Fld) (xs : List Sheet) (s : Sheet) (w : T) : Prop := Askable xs w ∧ isHull fs xs s w = false
theorem shp_in : shp (.str (Str.ofString "in")) = true := by decide +kernel
theorem shp_out : shp (.str (Str.ofString "out")) = true := by decide +kernel
theorem ask_lst {xs : List Sheet} {us : List T} (f : isFs us = true) : Askable xs (.lst false us) := ⟨isF_lst f, (fun _ _ _ h => nomatch h), (fun _ h => nomatch h)⟩
theorem ask_out {xs : List Sheet} {us : List T} (f : isFs us = true) (h : ∀ ls k, us ≠ [.tup [.tup ls, k]] ∨ xs.length + ls.length ≤ sizeLine) : Askable xs (.tup (.str (Str.ofString "out") :: us)) :=
  ⟨isF_tup (isFs_cons isF_str f), fun a ls k e => by
    injection e with e
    injection e with _ e
    rcases h ls k with h | h
    · exact absurd e h
    · exact h, fun us' e a r e2 => by
    injection e with e
    subst e
    injection e2 with e3 _
    exact ⟨_, e3.symm, e3 ▸ shp_out⟩⟩
theorem ask_in {xs : List Sheet} {us : List T} (f : isFs us = true) (h : ∀ ls k, us ≠ [.tup [.tup ls, k]] ∨ xs.length + ls.length ≤ sizeLine) : Askable xs (.tup (.str (Str.ofString "in") :: us)) :=
  ⟨isF_tup (isFs_cons isF_str f), fun a ls k e => by
    injection e with e
    injection e with _ e
    rcases h ls k with h | h
    · exact absurd e h
    · exact h, fun us' e a r e2 => by
    injection e with e
    subst e
    injection e2 with e3 _
    exact ⟨_, e3.symm, e3 ▸ shp_in⟩⟩
theorem hull_lst {fs : List Fld} {xs : List Sheet} {s : Sheet} {us : List T} : isHull fs xs s (.lst false us) = false := rfl
theorem hull_out1 {fs : List Fld} {xs : List Sheet} {s : Sheet} {t : T} : isHull fs xs s (.tup [.str (Str.ofString "out"), t]) = false := by
  simp only [isHull, isStr, out_in, decide_false, Bool.false_and]
theorem hull_out {fs : List Fld} {xs : List Sheet} {s : Sheet} {a b : T} : isHull fs xs s (.tup [.str (Str.ofString "out"), a, b]) = unseenB fs xs s a b := by
  simp only [isHull, isStr, decide_true, Bool.true_and]
theorem hull_in {fs : List Fld} {xs : List Sheet} {s : Sheet} {r : T} : isHull fs xs s (.tup [.str (Str.ofString "in"), r]) = makesB xs s r := by
  simp only [isHull, isStr, decide_true, Bool.true_and]
theorem hull_in2 {fs : List Fld} {xs : List Sheet} {s : Sheet} {a b : T} : isHull fs xs s (.tup [.str (Str.ofString "in"), a, b]) = false := by
  simp only [isHull, isStr, in_out, decide_false, Bool.false_and]
theorem own_say {fs : List Fld} {s : Sheet} (b : Box fs s) {y : Say} (h : y ∈ allSay fs s) : isSay fs (yT y) = true := by
  obtain ⟨i, a, f, h1, h2, h3⟩ := mem_allSay.mp h
  obtain ⟨b1, b2⟩ := b.inn i f a h2 h1
  rcases h3 with ⟨h3, rfl⟩ | ⟨h3, rfl⟩
  · simp only [yT, isSay, Int.toNat_natCast, h2, fits]
    simp
    omega
  · simp only [yT, isSay, Int.toNat_natCast, h2, fits]
    simp
    omega
theorem unseenB_own {fs : List Fld} {xs : List Sheet} {s : Sheet} (b : Box fs s) {y z : Say} (hy : y ∈ allSay fs s) (hz : z ∈ allSay fs s) : unseenB fs xs s (yT y) (yT z) = (seen xs y z).isNone := by
  unfold unseenB
  rw [own_say b hy, own_say b hz, show decS (yT y) = y from rfl, show decS (yT z) = z from rfl]
  simp [hy, hz]
theorem unseenB_l {fs : List Fld} {xs : List Sheet} {s : Sheet} {y : Say} {b : T} (hy : y ∉ allSay fs s) : unseenB fs xs s (yT y) b = false := by
  unfold unseenB
  rw [show decS (yT y) = y from rfl]
  simp [hy]
theorem unseenB_r {fs : List Fld} {xs : List Sheet} {s : Sheet} {y : Say} {b : T} (hy : y ∉ allSay fs s) : unseenB fs xs s b (yT y) = false := by
  unfold unseenB
  rw [show decS (yT y) = y from rfl]
  simp [hy]
theorem told_seen {fs : List Fld} {xs : List Sheet} {s : Sheet} (h : s ∈ xs) : AllSeen fs xs s := fun y hy z hz => seen_some.mpr ⟨s, h, has_own hy, has_own hz⟩
/-- two lists, item by item -/
def Rel2 (R : T → T → Prop) (xs ys : List T) : Prop := ys.length = xs.length ∧ ∀ (i : Nat) x y, xs[i]? = some x → ys[i]? = some y → R x y
theorem Rel2.nil {R : T → T → Prop} : Rel2 R [] [] := ⟨rfl, fun i x y h => by simp at h⟩
theorem Rel2.cons {R : T → T → Prop} {x y : T} {xs ys : List T} (h : R x y) (t : Rel2 R xs ys) : Rel2 R (x :: xs) (y :: ys) := by
  refine ⟨by simp [t.1], fun i a b h1 h2 => ?_⟩
  cases i with
  | zero => simp at h1 h2; subst h1; subst h2; exact h
  | succ i => simp at h1 h2; exact t.2 i a b h1 h2
theorem lc_any {own : List Nat} {step : T → Env → (Option T → Env → Prop) → Prop} {xs : List T} {Γ0 : Env} (R : T → T → Prop) (K : List T → Env → Prop)
    (hs : ∀ x ∈ xs, ∀ (Kk : Option T → Env → Prop), (∀ y Γ', R x y → wipeE own Γ' = wipeE own Γ0 → Kk (some y) Γ') → step x (wipeE own Γ0) Kk) : ∀ (Γ : Env) (acc : List T), wipeE own Γ = wipeE own Γ0 → (∀ ys Γ', Rel2 R xs ys → wipeE own Γ' = wipeE own Γ0 → K (acc ++ ys) Γ') → lcLoop own step xs Γ acc K := by
  induction xs with
  | nil =>
    intro Γ acc e k
    simp only [lcLoop]
    simpa using k [] Γ .nil e
  | cons x xs ih =>
    intro Γ acc e k
    simp only [lcLoop]
    rw [e]
    refine hs x List.mem_cons_self _ fun y Γ' r e' => ?_
    refine ih (fun y hy => hs y (List.mem_cons_of_mem _ hy)) (wipeE own Γ') _ (by rw [wipeE_twice, e']) fun ys Γ2 r2 e2 => ?_
    have := k (y :: ys) Γ2 (.cons r r2) e2
    simpa using this
theorem k_lcR {Φ : Nat → Spec} {Γ : Env} {Q : T → Env → Prop} {own : List Nat} {g : G} {c : Oc} {e : E} {xs : List T} (R : T → T → Prop) (hs : ∀ x ∈ xs, ∀ (Kk : Option T → Env → Prop), (∀ y Γ', R x y → wipeE own Γ' = wipeE own Γ → Kk (some y) Γ') → kTurn Φ g c e x (wipeE own Γ) Kk) (k : ∀ ys, Rel2 R xs ys → Q (.lst true ys) (backE own Γ Γ)) : kLc Φ own g c e xs Γ Q := by
  refine lc_any R _ hs Γ [] rfl fun ys Γ' r e' => ?_
  rw [backE_eq e']
  exact k ys r
/-- what both ways of a test hand on -/
theorem s_join {Φ : Nat → Spec} {s : S} {D : Ends} {Γ : Env} (J : Env → Prop) (h : ∀ nx : Env → Prop, (∀ Γ', J Γ' → nx Γ') → wpS Φ s { D with nx := nx } Γ) (k : ∀ Γ', J Γ' → D.nx Γ') : wpS Φ s D Γ := h D.nx k
theorem makes_rec {xs : List Sheet} {s : Sheet} {ls : List Say} {k : Int} (h : isRec xs.length (recT ls k) = true) (m : madeBy xs ls k = some s) : makesB xs s (recT ls k) = true := by
  unfold makesB
  rw [h, Bool.true_and]
  simp only [recT, linesT, List.map_map]
  rw [show ls.map (decS ∘ yT) = ls by rw [show (decS ∘ yT) = id from rfl, List.map_id], m]
  simp
/-- a list of sheets as values -/
theorem sheets_of {xs ys : List T} {C : Sheet → Prop} (h : Rel2 (fun _ y => ∃ s, y = sT s ∧ C s) xs ys) : ∃ A : List Sheet, ys = A.map sT ∧ A.length = xs.length ∧ ∀ s ∈ A, C s := by
  induction ys generalizing xs with
  | nil => exact ⟨[], rfl, h.1, by simp⟩
  | cons y ys ih =>
    cases xs with
    | nil => exact absurd h.1 (by simp)
    | cons x xs =>
      obtain ⟨s, rfl, hs⟩ := h.2 0 x y rfl rfl
      obtain ⟨A, rfl, hl, hA⟩ := ih (xs := xs) ⟨by have := h.1; simpa using this, fun i a b h1 h2 => h.2 (i + 1) a b (by simpa using h1) (by simpa using h2)⟩
      refine ⟨s :: A, rfl, by simp [hl], fun u hu => ?_⟩
      rcases List.mem_cons.mp hu with rfl | hu
      · exact hs
      · exact hA u hu
theorem ints_of {R : T → T → Prop} {xs ys : List T} (h : Rel2 R xs ys) (hi : ∀ x y, R x y → ∃ n : Int, y = .int n) : ∃ B : List Int, ys = B.map T.int ∧ B.length = xs.length ∧ ∀ (i : Nat) x b, xs[i]? = some x → B[i]? = some b → R x (.int b) := by
  have : ∃ B : List Int, ys = B.map T.int := by
    obtain ⟨hl, hr⟩ := h
    induction ys generalizing xs with
    | nil => exact ⟨[], rfl⟩
    | cons y ys ih =>
      cases xs with
      | nil => exact absurd hl (by simp)
      | cons x xs =>
        obtain ⟨n, rfl⟩ := hi x y (hr 0 x y rfl rfl)
        obtain ⟨B, rfl⟩ := ih (xs := xs) (by simpa using hl) fun i a b h1 h2 => hr (i + 1) a b (by simpa using h1) (by simpa using h2)
        exact ⟨n :: B, rfl⟩
  obtain ⟨B, rfl⟩ := this
  exact ⟨B, rfl, by have := h.1; simpa using this, fun i x b h1 h2 => h.2 i x _ h1 (by rw [List.getElem?_map, h2]; rfl)⟩
theorem filterMap_eq {α β : Type} {f g : α → Option β} : ∀ {l : List α}, (∀ x ∈ l, f x = g x) → l.filterMap f = l.filterMap g
  | [], _ => rfl
  | x :: l, h => by
    rw [List.filterMap_cons, List.filterMap_cons, h x List.mem_cons_self, filterMap_eq fun y hy => h y (List.mem_cons_of_mem _ hy)]
theorem cut_to {α : Type} {xs : List α} {i : Nat} (h : i ≤ xs.length) : slP.cutV' xs none (some (i : Int)) = xs.take i := by
  unfold slP.cutV'
  rw [HT.sIx_nat, HT.sIx_none, Nat.min_eq_left h, List.drop_zero, Nat.sub_zero]
theorem isF_pT {p : Say × Say} : isF (pT p) = true := rfl
theorem isFs_pT (U : List (Say × Say)) : isFs (U.map pT) = true := isFs_map fun _ => rfl
/-- fields whose answers are so many -/
def Sized (fs : List Fld) (sz : List Int) : Prop := fs.length = sz.length ∧ ∀ (i : Nat) f n, fs[i]? = some f → sz[i]? = some n → f.2.2 = f.2.1 + n - 1 ∧ -1000000 ≤ f.2.1 ∧ f.2.1 ≤ 1000000
def P_law_fields (ts : List T) (K : T → Prop) : Prop := ∃ o cs i sz, ts = [cellsT cs, .int i, .lst o (sz.map T.int)] ∧ 0 < cs.length ∧ sz.length ≤ 12 ∧ ∀ fs, Sized fs sz → K (fsT fs)
theorem c_law_fields {o : Bool} {cs : List Int} {i : Int} {sz : List Int} {K : T → Prop} (h : 0 < cs.length) (l : sz.length ≤ 12) (k : ∀ fs, Sized fs sz → K (fsT fs)) : P_law_fields [cellsT cs, .int i, .lst o (sz.map T.int)] K := ⟨o, cs, i, sz, rfl, h, l, k⟩
theorem cut63 (ns : List Int) : ∃ ms : List Int, slP.cutV' (ns.map T.int) none (some 63) = ms.map T.int ∧ ms.length ≤ 63 := by
  unfold slP.cutV'
  rw [HT.sIx_none, List.drop_zero, show (some (63 : Int)) = some ((63 : Nat) : Int) from rfl, HT.sIx_nat, ← List.map_take]
  exact ⟨_, rfl, by rw [List.length_take]; omega⟩
def P_law_cells (ts : List T) (K : T → Prop) : Prop := ∃ ns, ts = [.scr ns] ∧ ∀ cs : List Int, 0 < cs.length → K (.lst true (cs.map T.int))
theorem c_law_cells {ns : List Int} {K : T → Prop} (k : ∀ cs : List Int, 0 < cs.length → K (.lst true (cs.map T.int))) : P_law_cells [.scr ns] K := ⟨ns, rfl, k⟩
theorem str_app (x y : Str) : (x ++ y).length = x.length + y.length := by
  show (x.cps ++ y.cps).size = x.cps.size + y.cps.size
  rw [Array.size_append]
section
variable {Φ : Nat → Spec}
theorem v_law_sayings : VC Φ [false, false] P_law_sayings il__law_sayings 4 := by
  rintro ts Q - - ⟨fs, s, rfl, hl, h12, q⟩
  show wpSs Φ il__law_sayings _ [some (.tup (fs.map fldT)), some (sT s), none, none]
  unfold il__law_sayings
  have ff : isFs (fs.map fldT) = true := isFs_map fun _ => rfl
  have sl : sizeLine = 16777216 := rfl
  walk_at "pl_vs"
  rw [List.length_map]
  refine ⟨by omega, by omega, ?_⟩
  rw [show ((fs.length : Nat) : Int).toNat = fs.length by omega]
  refine k_for (fun i Γ => ∃ acc : List Say, acc.length ≤ 2 * i ∧ allSay fs s = acc ++ ((s.zipIdx).drop i).flatMap (fun q => match fs[q.2]? with
  | some f => asay q.2 f q.1
  | none => []) ∧ Γ = [some (.tup (fs.map fldT)), some (sT s), some (.lst true (acc.map yT)), none]) ⟨[], by simp, rfl, rfl⟩ ?_ ?_
  · rintro i x Γ hx ⟨acc, ha, hc, rfl⟩ again ag
    obtain ⟨hi, rfl⟩ := rng0_get hx
    have hf : fs[i]? = some (fs[i]'hi) := List.getElem?_eq_getElem hi
    have his : i < s.length := by omega
    have hs : s[i]? = some (s[i]'his) := List.getElem?_eq_getElem his
    have hi2 : i < s.zipIdx.length := by simpa using his
    have ez : s.zipIdx[i] = (s[i]'his, i) := by simp
    rw [List.drop_eq_getElem_cons hi2, ez, List.flatMap_cons] at hc
    simp only [hf] at hc
    rw [← List.append_assoc] at hc
    generalize fs[i]'hi = f at hf hc
    generalize s[i]'his = a at hs hc
    have i1 : idxT (sT s) (.int (i : Nat)) = some (.int a) := ix_sT (by rw [atI_cast]; exact hs)
    have i2 : idxT (.tup (fs.map fldT)) (.int (i : Nat)) = some (.tup [.str f.1, .int f.2.1, .int f.2.2]) := atI_map (f := fldT) (by rw [atI_cast]; exact hf)
    have hl0 : (acc.map yT).length < sizeLine := by rw [List.length_map]; omega
    have hl1 : ∀ y, (acc.map yT ++ [y]).length < sizeLine := fun y => by rw [List.length_append, List.length_map, List.length_singleton]; omega
    have hl1 := hl1 (.tup [.int (i : Nat), .int (-1), .int a])
    have fin : again [some (.tup (fs.map fldT)), some (sT s), some (.lst true ((acc ++ asay i f a).map yT)), none] := ag _ ⟨acc ++ asay i f a, by have := asay_len i f a; rw [List.length_append]; omega, hc, rfl⟩
    unfold asay at fin
    walk_at "pl_vs"
    all_goals first
      | (rename_i h1 h2; rw [if_pos h1, if_pos h2] at fin; simpa [yT] using fin; done)
      | (rename_i h1 h2; rw [if_pos h1, if_neg h2] at fin; simpa [yT] using fin; done)
      | (rename_i h1 h2; rw [if_neg h1, if_pos h2] at fin; simpa [yT] using fin; done)
      | (rename_i h1 h2; rw [if_neg h1, if_neg h2] at fin; simpa [yT] using fin; done)
  · rintro Γ ⟨acc, -, hc, rfl⟩
    rw [show s.zipIdx.drop ((List.range fs.length).map fun (k : Nat) => T.int k).length = [] by simp; omega] at hc
    simp only [List.flatMap_nil, List.append_nil] at hc
    rw [hc] at q
    walk_at "pl_vs"
    exact q
theorem v_law_run (h25 : Φ 25 = spF P_middle_of) : VC Φ [false, false] P_law_run il__law_run 6 := by
  rintro ts Q - - ⟨xs, ls, k, m, rfl, hr, hm, hl, q⟩
  show wpSs Φ il__law_run _ [some (.tup (xs.map sT)), some (.tup [.tup (ls.map yT), .int k]), none, none, none, none]
  unfold il__law_run
  obtain ⟨hl1, k0, k1⟩ := isRec_of hr
  obtain ⟨out, hout, hk⟩ := Option.bind_eq_some_iff.mp hm
  obtain ⟨out', ho', holen⟩ := things_some hl1
  rw [hout] at ho'
  cases ho'
  have fx := isFs_sT xs
  have fl := isFs_yT ls
  walk_at "pl_vs"
  · refine k_for (fun i Γ => ∃ cur, thingsOf cur (ls.drop i) = some out ∧ cur.length = xs.length + i ∧ isLines cur.length ((ls.drop i).map yT) = true ∧ Γ = [some (.tup (xs.map sT)), some (.tup [.tup (ls.map yT), .int k]), some (.lst true (cur.map sT)), none, none, none]) ⟨xs, hout, rfl, hl1, rfl⟩ ?_ ?_
    · rintro i x Γ hx ⟨cur, hc, hcl, hci, rfl⟩ again ag
      rw [List.getElem?_map] at hx
      obtain ⟨y, hy, rfl⟩ := Option.map_eq_some_iff.mp hx
      obtain ⟨hi, e⟩ := List.getElem?_eq_some_iff.mp hy
      rw [List.drop_eq_getElem_cons hi, e] at hc hci
      rw [List.map_cons, isLines_cons, Bool.and_eq_true] at hci
      obtain ⟨b1, b2, b3⟩ := isLine_yT hci.1
      obtain ⟨a, h1⟩ := atI_some (xs := cur) b1.1 b1.2
      obtain ⟨b, h2⟩ := atI_some (xs := cur) b2.1 b2.2
      obtain ⟨c, h3⟩ := atI_some (xs := cur) b3.1 b3.2
      unfold thingsOf at hc
      simp only [h1, h2, h3] at hc
      have i1 : idxT (.lst true (cur.map sT)) (.int y.1) = some (sT a) := atI_map h1
      have i2 : idxT (.lst true (cur.map sT)) (.int y.2.1) = some (sT b) := atI_map h2
      have i3 : idxT (.lst true (cur.map sT)) (.int y.2.2) = some (sT c) := atI_map h3
      have hl2 : (cur.map sT).length < sizeLine := by rw [List.length_map]; omega
      have fin : again [some (.tup (xs.map sT)), some (.tup [.tup (ls.map yT), .int k]), some (.lst true (cur.map sT ++ [sT (mid a b c)])), none, none, none] := by
        refine ag _ ⟨cur ++ [mid a b c], hc, by simp; omega, ?_, ?_⟩
        · rw [List.length_append]
          exact hci.2
        · rw [List.map_append]
          rfl
      unfold yT
      walk_at "pl_vs"
      · refine k_for (fun j Γ => Γ = [some (.tup (xs.map sT)), some (.tup [.tup (ls.map yT), .int k]), some (.lst true (cur.map sT)), some (.tup [.int y.1, .int y.2.1, .int y.2.2]), none, none]) rfl ?_ ?_
        · rintro j x Γ hx rfl again2 ag2
          have hx' : ∃ v : Int, x = .int v ∧ 0 ≤ v ∧ v < cur.length := by
            have := List.mem_of_getElem? hx
            simp only [List.mem_cons, List.not_mem_nil, or_false] at this
            rcases this with rfl | rfl | rfl
            · exact ⟨_, rfl, b1⟩
            · exact ⟨_, rfl, b2⟩
            · exact ⟨_, rfl, b3⟩
          obtain ⟨v, rfl, v0, v1⟩ := hx'
          walk_at "pl_vs"
          · rename_i h; omega
          · rename_i h
            rw [List.length_map] at h
            omega
          · exact ag2 _ rfl
        · rintro Γ rfl
          walk_at "pl_vs"
          exact fin
    · rintro Γ ⟨cur, hc, hcl, -, rfl⟩
      rw [List.length_map, List.drop_length] at hc
      simp only [thingsOf] at hc
      cases hc
      have i1 : idxT (.lst true (out.map sT)) (.int k) = some (sT m) := atI_map hk
      walk_at "pl_vs"
      · rename_i h; omega
      · rename_i h
        rw [List.length_map] at h
        omega
      · exact q
end

/-! k80: cells, fields, is a thing just this row, what is unseen by masks. -/
def isJust (i : Int) : T → Bool
  | .int j => decide (j = i)
  | _ => false
def sameB (s : List Int) (t : T) : Bool := match t with
  | .tup xs => decide (xs.length = s.length) && ((xs.zip s).all fun z => isJust z.2 z.1)
  | _ => false
def P_law_same (ts : List T) (K : T → Prop) : Prop := ∃ t s, ts = [t, sT s] ∧ isF t = true ∧ K (.bl (sameB s t))
theorem c_law_same {t : T} {s : List Int} {K : T → Prop} (f : isF t = true) (k : K (.bl (sameB s t))) : P_law_same [t, sT s] K := ⟨t, s, rfl, f, k⟩
theorem sameB_sT {a b : Sheet} : sameB b (sT a) = decide (a = b) := by
  unfold sameB sT
  simp only [List.length_map]
  induction a generalizing b with
  | nil => cases b <;> simp
  | cons x xs ih =>
    cases b with
    | nil => simp
    | cons y ys =>
      have := ih (b := ys)
      simp only [List.map_cons, List.zip_cons_cons, List.all_cons, List.length_cons, isJust] at this ⊢
      by_cases h : x = y
      · subst h
        simp only [decide_true, Bool.true_and]
        simpa using this
      · simp [h]
theorem sameB_yT {a b : Say} : sameB [b.1, b.2.1, b.2.2] (yT a) = decide (a = b) := by
  rw [show yT a = sT [a.1, a.2.1, a.2.2] from rfl, sameB_sT]
  obtain ⟨a1, a2, a3⟩ := a
  obtain ⟨b1, b2, b3⟩ := b
  simp
/-- the pairs that no sheet has, in the law's sequence -/
def unseenL (xs : List Sheet) (A : List Say) : List (Say × Say) := (A.zipIdx).flatMap fun q => (A.take (q.2 + 1)).filterMap fun z => if (seen xs z q.1).isSome then none else some (z, q.1)
theorem mem_unseenL {xs : List Sheet} {A : List Say} {p : Say × Say} (h : p ∈ unseenL xs A) : p.1 ∈ A ∧ p.2 ∈ A ∧ seen xs p.1 p.2 = none := by
  unfold unseenL at h
  obtain ⟨⟨y, i⟩, h1, h2⟩ := List.mem_flatMap.mp h
  obtain ⟨z, h3, h4⟩ := List.mem_filterMap.mp h2
  have h1 := List.mk_mem_zipIdx_iff_getElem?.mp h1
  simp only at h4
  split at h4
  · cases h4
  · rename_i hn
    cases h4
    exact ⟨List.mem_of_mem_take h3, List.mem_of_getElem? h1, by simpa using hn⟩
theorem unseenL_nil {xs : List Sheet} {A : List Say} (h : unseenL xs A = []) : ∀ y ∈ A, ∀ z ∈ A, (seen xs y z).isSome = true := by
  have main : ∀ (i j : Nat) y z, i ≤ j → A[i]? = some y → A[j]? = some z → (seen xs y z).isSome = true := fun i j y z hij e1 e2 => by
    cases hs : (seen xs y z).isSome with
    | true => rfl
    | false =>
      exfalso
      have : (y, z) ∈ unseenL xs A := by
        unfold unseenL
        rw [List.mem_flatMap]
        refine ⟨(z, j), List.mk_mem_zipIdx_iff_getElem?.mpr e2, ?_⟩
        rw [List.mem_filterMap]
        refine ⟨y, List.mem_of_getElem? (i := i) ?_, by simp [hs]⟩
        rw [List.getElem?_take_of_lt (by show i < j + 1; omega)]
        exact e1
      rw [h] at this
      cases this
  intro y hy z hz
  obtain ⟨i, ei⟩ := List.mem_iff_getElem?.mp hy
  obtain ⟨j, ej⟩ := List.mem_iff_getElem?.mp hz
  rcases Nat.le_total i j with h | h
  · exact main i j y z h ei ej
  · rw [seen_comm]
    exact main j i z y h ej ei
theorem o_shl {i j : Int} {Q : T → Prop} (h : L2.CPow i j) (k : Q (.int (i * 2 ^ j.toNat))) : opP .shl (.int i) (.int j) Q := ⟨h, k⟩
theorem o_band {i j : Int} {Q : T → Prop} (k : Q (.int (PySem.Builtin.bitAnd i j))) : opP .band (.int i) (.int j) Q := k
local macro_rules | `(tactic| walk_at "pl_vc1") => `(tactic| with_reducible apply o_band)
def hasAt (xs : List Sheet) (y : Say) (k : Nat) : Bool := match xs[k]? with
  | some s => has y s
  | none => false
/-- the sheets that have a saying, as a mask: of the first i -/
def maskTo (xs : List Sheet) (y : Say) : Nat → Nat
  | 0 => 0
  | i + 1 => maskTo xs y i + if hasAt xs y i = true then 2 ^ i else 0
theorem maskTo_lt (xs : List Sheet) (y : Say) : ∀ i, maskTo xs y i < 2 ^ i
  | 0 => by simp [maskTo]
  | i + 1 => by
    have := maskTo_lt xs y i
    rw [maskTo, Nat.pow_succ]
    split <;> omega
theorem maskTo_bit (xs : List Sheet) (y : Say) (k : Nat) : ∀ i, (maskTo xs y i).testBit k = (decide (k < i) && hasAt xs y k)
  | 0 => by simp [maskTo]
  | i + 1 => by
    have ih := maskTo_bit xs y k i
    have hl := maskTo_lt xs y i
    rw [maskTo]
    by_cases hk : k = i
    · subst hk
      have h0 : (maskTo xs y k).testBit k = false := Nat.testBit_lt_two_pow hl
      split
      · rename_i h
        rw [Nat.add_comm, show 2 ^ k + maskTo xs y k = 2 ^ k * 1 + maskTo xs y k by omega, Nat.two_pow_add_eq_or_of_lt hl, Nat.testBit_or, h0, Nat.mul_one, Nat.testBit_two_pow, h]
        simp
      · rename_i h
        rw [Nat.add_zero, h0]
        simp at h
        simp [h]
    · have e : decide (k < i + 1) = decide (k < i) := by
        by_cases h : k < i
        · simp [h]; omega
        · simp [h]; omega
      rw [e, ← ih]
      split
      · rw [Nat.add_comm, show 2 ^ i + maskTo xs y i = 2 ^ i * 1 + maskTo xs y i by omega, Nat.two_pow_add_eq_or_of_lt hl, Nat.testBit_or, Nat.mul_one, Nat.testBit_two_pow]
        simp [show ¬ i = k from fun h => hk h.symm]
      · rw [Nat.add_zero]
theorem mask_seen (xs : List Sheet) (y z : Say) : decide (PySem.Builtin.bitAnd (maskTo xs y xs.length : Nat) (maskTo xs z xs.length : Nat) = 0) = !(seen xs y z).isSome := by
  have e : PySem.Builtin.bitAnd (maskTo xs y xs.length : Nat) (maskTo xs z xs.length : Nat) = ((maskTo xs y xs.length &&& maskTo xs z xs.length : Nat) : Int) := by
    unfold PySem.Builtin.bitAnd
    rw [decide_eq_true (by omega), decide_eq_true (by omega)]
    simp
  rw [e]
  cases hs : (seen xs y z).isSome with
  | true =>
    obtain ⟨x, hx, h1, h2⟩ := seen_some.mp hs
    obtain ⟨k, hk⟩ := List.mem_iff_getElem?.mp hx
    have hl := (List.getElem?_eq_some_iff.mp hk).1
    refine decide_eq_false fun h => ?_
    have h : maskTo xs y xs.length &&& maskTo xs z xs.length = 0 := by omega
    have b : (maskTo xs y xs.length &&& maskTo xs z xs.length).testBit k = true := by
      have ha : ∀ u, has u x = true → hasAt xs u k = true := fun u h => by unfold hasAt; rw [hk]; exact h
      rw [Nat.testBit_and, maskTo_bit, maskTo_bit, ha y h1, ha z h2, decide_eq_true hl]
      rfl
    rw [h] at b
    simp at b
  | false =>
    refine decide_eq_true ?_
    have : maskTo xs y xs.length &&& maskTo xs z xs.length = 0 := by
      apply Nat.eq_of_testBit_eq
      intro k
      rw [Nat.testBit_and, maskTo_bit, maskTo_bit, Nat.zero_testBit]
      unfold hasAt
      cases hk : xs[k]? with
      | none => simp
      | some s =>
        simp only
        cases h1 : has y s <;> cases h2 : has z s <;> simp
        have : (seen xs y z).isSome = true := seen_some.mpr ⟨s, List.mem_of_getElem? hk, h1, h2⟩
        rw [hs] at this
        cases this
    rw [this]
    rfl
def P_law_unseen (ts : List T) (K : T → Prop) : Prop := ∃ X o xs A n, ts = [X, .lst o (A.map yT)] ∧ (X = .tup (xs.map sT) ∨ X = .lst false (xs.map sT)) ∧ xs.length ≤ 200 ∧ A.length ≤ 24 ∧ (∀ x ∈ xs, x.length = n) ∧ (∀ y ∈ A, Sy n y) ∧ K (.lst true ((unseenL xs A).map pT))
theorem c_law_unseen {X : T} {o : Bool} {xs : List Sheet} {A : List Say} {n : Nat} {K : T → Prop} (hX : X = .tup (xs.map sT) ∨ X = .lst false (xs.map sT)) (h1 : xs.length ≤ 200) (h2 : A.length ≤ 24) (h3 : ∀ x ∈ xs, x.length = n) (h4 : ∀ y ∈ A, Sy n y) (k : K (.lst true ((unseenL xs A).map pT))) : P_law_unseen [X, .lst o (A.map yT)] K := ⟨X, o, xs, A, n, rfl, hX, h1, h2, h3, h4, k⟩
theorem c_law_holds {y : Say} {s : Sheet} {n : Nat} {K : T → Prop} (h : Sy n y) (l : s.length = n) (k : K (.bl (has y s))) : P_holds_in [yT y, sT s] K := by
  have h1 := h.lo
  have h2 := h.hi
  obtain ⟨a, e⟩ := atI_some (xs := s) h1 (by omega)
  refine ⟨y, s, _, rfl, h.w, e, ?_⟩
  unfold has at k
  rw [e] at k
  exact k
theorem codes_ok : ∀ k : Fin 97, (toString (k.val : Int) : Str).length ≤ 4 ∧ (L2.cutS "aeiou" none (some ((k.val : Int) % 6))).length ≤ 5 ∧ (L2.atI ("tzwsvruqpmnlkjhgxfdycb" : Str).cps.toList ((k.val : Int) % 22)).isSome = true := by decide +kernel
section
variable {Φ : Nat → Spec}
theorem v_law_cells : VC Φ [false] P_law_cells il__law_cells 7 := by
  rintro ts Q - - ⟨ns, rfl, q⟩
  show wpSs Φ il__law_cells _ [some (.scr ns), none, none, none, none, none, none]
  unfold il__law_cells
  have sl : sizeLine = 16777216 := rfl
  obtain ⟨ms, em, lm⟩ := cut63 ns
  have fm := isF_ints ms
  walk_at "pl_vs"
  rw [em]
  refine k_holdT rfl fm ?_
  refine k_for (fun i Γ => ∃ cs : List Int, cs.length ≤ 70 * i ∧ Γ = [some (.scr ns), some (.lst true (cs.map T.int)), none, none, none, none, none]) ⟨[], by simp, rfl⟩ ?_ ?_
  · rintro i x Γ hx ⟨cs, hc, rfl⟩ again ag
    have hi := (List.getElem?_eq_some_iff.mp hx).1
    rw [List.length_map] at hi
    rw [List.getElem?_map] at hx
    obtain ⟨c, hy, rfl⟩ := Option.map_eq_some_iff.mp hx
    have hl : (cs.map T.int).length < sizeLine := by rw [List.length_map]; omega
    walk_at "pl_vs"
    · have hl2 : ∀ y z : T, (cs.map T.int ++ [y]).length < sizeLine ∧ (cs.map T.int ++ [y] ++ [z]).length < sizeLine := fun y z => by simp only [List.length_append, List.length_map, List.length_singleton]; omega
      have hl3 := fun y => (hl2 y y).1
      refine k_app rfl (hl3 _) ?_
      simp only [List.set_cons_zero, List.set_cons_succ]
      walk_at "pl_vs"
      have e : ∀ a b : Int, cs.map T.int ++ [T.int a] ++ [T.int b] = (cs ++ [a, b]).map T.int := fun a b => by simp
      rw [e]
      exact ag _ ⟨_, by simp only [List.length_append, List.length_cons, List.length_nil]; omega, rfl⟩
    · refine ⟨by decide, by decide, ?_⟩
      refine k_for (fun j Γ => ∃ (cs : List Int) (r : Int), cs.length ≤ 70 * i + j ∧ Γ = [some (.scr ns), some (.lst true (cs.map T.int)), some (.int c), some (.int r), none, none, none]) ⟨cs, _, by omega, rfl⟩ ?_ ?_
      · rintro j x Γ hx ⟨cs, r, hc, rfl⟩ again2 ag2
        obtain ⟨hj, rfl⟩ := rng0_get hx
        have hj : j < 70 := hj
        have hl : (cs.map T.int).length < sizeLine := by rw [List.length_map]; omega
        walk_at "pl_vs"
        · have e : ∀ a : Int, cs.map T.int ++ [T.int a] = (cs ++ [a]).map T.int := fun a => by simp
          rw [e]
          exact ag2 _ ⟨_, _, by simp only [List.length_append, List.length_singleton]; omega, rfl⟩
        · exact ag2 _ ⟨cs, r, by omega, rfl⟩
      · rintro Γ ⟨cs, r, hc, rfl⟩
        have hc : cs.length ≤ 70 * i + 70 := hc
        walk_at "pl_vs"
        exact ag _ ⟨cs, by omega, rfl⟩
  · rintro Γ ⟨cs, hc, rfl⟩
    rw [List.length_map] at hc
    have fc := isF_ints cs
    walk_at "pl_vs"
    refine s_forB rfl fc ?_
    simp only [List.set_cons_zero, List.set_cons_succ]
    refine k_for (fun j Γ => ∃ (st : Int), Γ = [some (.scr ns), none, none, none, none, none, some (.int st)]) ⟨_, rfl⟩ ?_ ?_
    · rintro j x Γ hx ⟨st, rfl⟩ again ag
      rw [List.getElem?_map] at hx
      obtain ⟨c, hy, rfl⟩ := Option.map_eq_some_iff.mp hx
      walk_at "pl_vs"
      exact ag _ ⟨_, rfl⟩
    · rintro Γ ⟨st, rfl⟩
      simp only [List.set_cons_zero, List.set_cons_succ]
      walk_at "pl_vs"
      refine ⟨by decide, by decide, ?_⟩
      refine k_for (fun j Γ => ∃ (cs : List Int) (st : Int), cs.length ≤ 4410 + j ∧ j ≤ cs.length ∧ Γ = [some (.scr ns), some (.lst true (cs.map T.int)), none, none, none, none, some (.int st)]) ⟨cs, _, by omega, by omega, rfl⟩ ?_ ?_
      · rintro j x Γ hx ⟨cs, st, hc, hj0, rfl⟩ again2 ag2
        obtain ⟨hj, rfl⟩ := rng0_get hx
        have hj : j < 900 := hj
        have hl : (cs.map T.int).length < sizeLine := by rw [List.length_map]; omega
        walk_at "pl_vs"
        have e : ∀ a : Int, cs.map T.int ++ [T.int a] = (cs ++ [a]).map T.int := fun a => by simp
        rw [e]
        exact ag2 _ ⟨_, _, by simp only [List.length_append, List.length_singleton]; omega, by simp only [List.length_append, List.length_singleton]; omega, rfl⟩
      · rintro Γ ⟨cs, st, hc, hj0, rfl⟩
        have hj0 : 900 ≤ cs.length := hj0
        walk_at "pl_vs"
        exact q cs (by omega)
theorem v_law_fields (h22 : Φ 22 = spF P_pick) : VC Φ [false, false, false] P_law_fields il__law_fields 11 := by
  rintro ts Q - am ⟨o, cs, i, sz, rfl, hcs, h12, q⟩
  have ho : o = false := by
    simp only [argsM, Bool.and_eq_true, Bool.and_true] at am
    cases o with
    | false => rfl
    | true => simp [isF] at am
  subst ho
  show wpSs Φ il__law_fields _ [some (cellsT cs), some (.int i), some (.lst false (sz.map T.int)), none, none, none, none, none, none, none, none]
  unfold il__law_fields
  have fz := isF_ints sz
  have sl : sizeLine = 16777216 := rfl
  walk_at "pl_vs"
  refine c_pick hcs (by decide) fun first f0 f1 => ?_
  walk_at "pl_vs"
  refine c_pick hcs (by decide) fun step st0 st1 => ?_
  walk_at "pl_vs"
  refine c_pick hcs (by decide) fun un u0 u1 => ?_
  walk_at "pl_vs"
  all_goals
    rw [List.length_map]
    refine ⟨by omega, by omega, ?_⟩
    rw [show ((sz.length : Nat) : Int).toNat = sz.length by omega]
    refine k_for (fun j Γ => ∃ (fs : List Fld) (u : Int), fs.length = j ∧ (u = 1 ∨ u = 99998) ∧ (∀ (i : Nat) f n, fs[i]? = some f → sz[i]? = some n → f.2.2 = f.2.1 + n - 1 ∧ -1000000 ≤ f.2.1 ∧ f.2.1 ≤ 1000000) ∧
      Γ = [some (cellsT cs), some (.int i), some (.lst false (sz.map T.int)), some (.str "tzwsvruqpmnlkjhgxfdycb"), some (.int first), some (.int (1 + step)), some (.int u), some (.lst true (fs.map fldT)), none, none, none]) ⟨[], _, rfl, by first | exact .inl rfl | exact .inr rfl, fun i f n h => by simp at h, rfl⟩ ?_ ?_
    · rintro j x Γ hx ⟨fs, u, hl, hu, hf, rfl⟩ again ag
      obtain ⟨hj, rfl⟩ := rng0_get hx
      have hs : sz[j]? = some (sz[j]'hj) := List.getElem?_eq_getElem hj
      generalize sz[j]'hj = n at hs
      have i2 : idxT (.lst false (sz.map T.int)) (.int (j : Nat)) = some (.int n) := atI_map (by rw [atI_cast]; exact hs)
      walk_at "pl_vs"
      refine c_pick hcs (by decide) fun r r0 r1 => ?_
      generalize hcd : (first + (1 + step) * (j : Int)) % 97 = cd
      have cd0 : 0 ≤ cd := by rw [← hcd]; exact Int.emod_nonneg _ (by decide)
      have cd1 : cd < 97 := by rw [← hcd]; exact Int.emod_lt_of_pos _ (by decide)
      obtain ⟨k, rfl⟩ : ∃ k : Fin 97, cd = ((k.val : Nat) : Int) := ⟨⟨cd.toNat, by omega⟩, by simp only; omega⟩
      obtain ⟨c1, c2, c3⟩ := codes_ok k
      obtain ⟨ch, hch⟩ := Option.isSome_iff_exists.mp c3
      have i1 : idxT (.str "tzwsvruqpmnlkjhgxfdycb") (.int (((k.val : Nat) : Int) % 22)) = some (.str ⟨#[ch]⟩) := by
        simp only [idxT]
        rw [if_pos (by decide +kernel), hch]
        rfl
      have hk := k.isLt
      have hl2 : (fs.map fldT).length < sizeLine := by rw [List.length_map]; omega
      have hr : u * (r - 10) ≤ 1000000 ∧ -1000000 ≤ u * (r - 10) := by rcases hu with rfl | rfl <;> omega
      walk_at "pl_vs"
      refine b_str (by simp only [Int.natAbs_natCast]; exact Nat.lt_of_le_of_lt (Nat.log2_le_self _) (by omega)) ?_
      have l1 : (⟨#[ch]⟩ : Str).length = 1 := rfl
      refine o_addS (by rw [l1]; omega) ?_
      walk_at "pl_vs"
      refine l_str (by decide +kernel) ?_
      refine o_addS (by rw [str_app, l1]; omega) ?_
      walk_at "pl_vs"
      have e : ∀ (a : Str) (b c : Int), fs.map fldT ++ [T.tup [.str a, .int b, .int c]] = (fs ++ [(a, b, c)]).map fldT := fun a b c => by rw [List.map_append]; rfl
      rw [e]
      refine ag _ ⟨_, u, by simp; omega, hu, fun i f n' h h' => ?_, rfl⟩
      by_cases hi : i < fs.length
      · rw [List.getElem?_append_left hi] at h
        exact hf i f n' h h'
      · have := (List.getElem?_eq_some_iff.mp h).1
        rw [List.length_append, List.length_singleton] at this
        obtain rfl : i = j := by omega
        rw [← hl, List.getElem?_concat_length] at h
        rw [hs] at h'
        cases h
        cases h'
        exact ⟨rfl, hr.2, hr.1⟩
    · rintro Γ ⟨fs, u, hl, hu, hf, rfl⟩
      simp only [List.length_map, List.length_range] at hl
      have ff : isFs (fs.map fldT) = true := isFs_map fun _ => rfl
      walk_at "pl_vs"
      exact q fs ⟨hl, hf⟩
theorem v_law_same : VC Φ [false, false] P_law_same il__law_same 4 := by
  rintro ts Q - - ⟨t, s, rfl, ft, q⟩
  show wpSs Φ il__law_same _ [some t, some (.tup (s.map T.int)), none, none]
  unfold il__law_same
  have fi := isF_ints s
  cases t
  case tup us =>
    have fu := isF_tupD ft
    walk_at "pl_vs"
    · rename_i h1
      have : sameB s (.tup us) = false := by
        rw [List.length_map] at h1
        have : ¬ us.length = s.length := by omega
        simp [sameB, this]
      rw [this] at q
      exact q
    · rename_i h1
      have hl : us.length = s.length := by
        rw [List.length_map] at h1
        omega
      refine k_for (fun i Γ => sameB s (.tup us) = ((us.drop i).zip (s.drop i)).all (fun z => isJust z.2 z.1) ∧ Γ = [some (.tup us), some (.tup (s.map T.int)), none, none]) ⟨by simp [sameB, hl], rfl⟩ ?_ ?_
      · rintro i x Γ hx ⟨hc, rfl⟩ again ag
        rw [List.getElem?_map, List.zip_map_right, List.getElem?_map] at hx
        obtain ⟨p, hp, rfl⟩ := Option.map_eq_some_iff.mp hx
        obtain ⟨w, hw, rfl⟩ := Option.map_eq_some_iff.mp hp
        obtain ⟨e1, e2⟩ := List.getElem?_zip_eq_some.mp hw
        obtain ⟨g1, e1'⟩ := List.getElem?_eq_some_iff.mp e1
        obtain ⟨g2, e2'⟩ := List.getElem?_eq_some_iff.mp e2
        rw [List.drop_eq_getElem_cons g1, List.drop_eq_getElem_cons g2, e1', e2', List.zip_cons_cons, List.all_cons] at hc
        have fw : isF w.1 = true := isFs_mem fu (List.mem_of_getElem? e1)
        simp only [Prod.map, id]
        obtain ⟨w1, w2⟩ := w
        simp only at hc fw
        cases w1
        case int v =>
          walk_at "pl_vs"
          · rename_i hj
            rw [show isJust w2 (.int v) = false from decide_eq_false hj, Bool.false_and] at hc
            rw [hc] at q
            exact q
          · rename_i hj
            rw [show isJust w2 (.int v) = true from decide_eq_true hj, Bool.true_and] at hc
            exact ag _ ⟨hc, rfl⟩
        all_goals
          have hc : sameB s (.tup us) = false := hc
          rw [hc] at q
          walk_at "pl_vs"
          all_goals exact q
      · rintro Γ ⟨hc, rfl⟩
        have hl2 : ((us.zip (s.map T.int)).map fun z => T.tup [z.1, z.2]).length = us.length := by simp [hl]
        rw [hl2, List.drop_length] at hc
        simp only [List.zip_nil_left, List.all_nil] at hc
        rw [hc] at q
        walk_at "pl_vs"
        exact q
  all_goals
    walk_at "pl_vs"
    all_goals first
      | exact q
      | (exfalso; rename_i h _; cases h; done)
      | (exfalso; rename_i h; cases h; done)
end

/-! k80: what is unseen, what is told, both. -/
theorem unseenL_mem {xs : List Sheet} {A : List Say} {y z : Say} (hy : y ∈ A) (hz : z ∈ A) (h : seen xs y z = none) : (y, z) ∈ unseenL xs A ∨ (z, y) ∈ unseenL xs A := by
  have main : ∀ (i j : Nat) y z, i ≤ j → A[i]? = some y → A[j]? = some z → seen xs y z = none → (y, z) ∈ unseenL xs A := fun i j y z hij e1 e2 h => by
    unfold unseenL
    rw [List.mem_flatMap]
    refine ⟨(z, j), List.mk_mem_zipIdx_iff_getElem?.mpr e2, ?_⟩
    rw [List.mem_filterMap]
    refine ⟨y, List.mem_of_getElem? (i := i) ?_, by simp [h]⟩
    rw [List.getElem?_take_of_lt (by show i < j + 1; omega)]
    exact e1
  obtain ⟨i, ei⟩ := List.mem_iff_getElem?.mp hy
  obtain ⟨j, ej⟩ := List.mem_iff_getElem?.mp hz
  rcases Nat.le_total i j with hij | hij
  · exact .inl (main i j y z hij ei ej h)
  · exact .inr (main j i z y hij ej ei (by rw [seen_comm]; exact h))
theorem c_hull2 {fs : List Fld} {xs : List Sheet} {s : Sheet} {K : T → Prop} (h : Cx fs xs s) (k1 : ∀ y ∈ allSay fs s, ∀ z ∈ allSay fs s, seen xs y z = none → K (.tup [.str (Str.ofString "out"), yT y, yT z]))
    (k2 : AllSeen fs xs s → ∀ ls k, ls.length ≤ 600 → isRec xs.length (recT ls k) = true → madeBy xs ls k = some s → K (.tup [.str (Str.ofString "in"), recT ls k])) : P_hull_of [fsT fs, xsT xs, sT s] K := c_hull_of h k1 k2
theorem k_nonT {x : T} {A B : Prop} (h : isNon x = true) (k : A) : kIf (isNon x) A B := k_if (fun _ => k) fun e => by rw [h] at e; cases e
theorem k_nonF {x : T} {A B : Prop} (h : isNon x = false) (k : B) : kIf (isNon x) A B := k_if (fun e => by rw [h] at e; cases e) fun _ => k
theorem k_nnonT {x : T} {A B : Prop} (h : isNon x = true) (k : B) : kIf (!isNon x) A B := k_if (fun e => by rw [h] at e; cases e) fun _ => k
theorem k_nnonF {x : T} {A B : Prop} (h : isNon x = false) (k : A) : kIf (!isNon x) A B := k_if (fun _ => k) fun e => by rw [h] at e; cases e
theorem k_bqT {a b : Bool} {A B : Prop} (h : (a == b) = true) (k : A) : kIf (a == b) A B := k_if (fun _ => k) fun e => by rw [h] at e; cases e
theorem k_bqF {a b : Bool} {A B : Prop} (h : (a == b) = false) (k : B) : kIf (a == b) A B := k_if (fun e => by rw [h] at e; cases e) fun _ => k
theorem k_nbqT {a b : Bool} {A B : Prop} (h : (a == b) = true) (k : B) : kIf (!(a == b)) A B := k_if (fun e => by rw [h] at e; cases e) fun _ => k
theorem k_nbqF {a b : Bool} {A B : Prop} (h : (a == b) = false) (k : A) : kIf (!(a == b)) A B := k_if (fun _ => k) fun e => by rw [h] at e; cases e
local macro_rules | `(tactic| walk_at "pl_vc1") => `(tactic| first
  | ((with_reducible apply k_nonT); (focus exact rfl)) | ((with_reducible apply k_nonF); (focus exact rfl)) | ((with_reducible apply k_nnonT); (focus exact rfl)) | ((with_reducible apply k_nnonF); (focus exact rfl))
  | ((with_reducible apply k_bqT); (focus exact rfl)) | ((with_reducible apply k_bqF); (focus exact rfl)) | ((with_reducible apply k_nbqT); (focus exact rfl)) | ((with_reducible apply k_nbqF); (focus exact rfl)))
theorem rec_few {xs : List Sheet} {ls : List Say} {k : Int} (h1 : xs.length ≤ 200) (h2 : ls.length ≤ 600) : ∀ ls' k', [recT ls k] ≠ [.tup [.tup ls', k']] ∨ xs.length + ls'.length ≤ sizeLine := fun ls' k' => by
  have sl : sizeLine = 16777216 := rfl
  by_cases h : [recT ls k] = [.tup [.tup ls', k']]
  · injection h with h _
    injection h with h
    injection h with h _
    injection h with h
    subst h
    exact .inr (by simp; omega)
  · exact .inl h
def P_law_both (ts : List T) (K : T → Prop) : Prop := ∃ fs W S s, ts = [fsT fs, xsT W, xsT S, sT s] ∧ Cx fs W s ∧ Cx fs S s ∧ AllSeen fs W s ∧ K (.bl true)
theorem c_law_both {fs : List Fld} {W S : List Sheet} {s : Sheet} {K : T → Prop} (h1 : Cx fs W s) (h2 : Cx fs S s) (h3 : AllSeen fs W s) (k : K (.bl true)) : P_law_both [fsT fs, xsT W, xsT S, sT s] K := ⟨fs, W, S, s, rfl, h1, h2, h3, k⟩
section
variable {Φ : Nat → Spec}
theorem v_law_unseen (h28 : Φ 28 = spF P_holds_in) : VC Φ [false, false] P_law_unseen il__law_unseen 8 := by
  rintro ts Q - am ⟨X, o, xs, A, n, rfl, hX, h1, h2, h3, h4, q⟩
  have ho : o = false := by
    simp only [argsM, Bool.and_eq_true, Bool.and_true] at am
    cases o with
    | false => rfl
    | true => simp [isF] at am
  subst ho
  show wpSs Φ il__law_unseen _ [some X, some (.lst false (A.map yT)), none, none, none, none, none, none]
  unfold il__law_unseen
  have ff : isFs (A.map yT) = true := isFs_yT A
  have sl : sizeLine = 16777216 := rfl
  have fX : isF X = true := by rcases hX with rfl | rfl <;> first | exact isF_tup (isFs_sT xs) | exact isF_lst (isFs_sT xs)
  have iX : ∀ (i : Nat) s, xs[i]? = some s → idxT X (.int (i : Nat)) = some (sT s) := fun i s h => by
    rcases hX with rfl | rfl <;> exact atI_map (by rw [atI_cast]; exact h)
  have lX : ∀ Q : T → Prop, Q (.int (xs.length : Nat)) → biP .len X Q := fun Q h => by
    rcases hX with rfl | rfl <;> (show Q _; rw [List.length_map]; exact h)
  clear hX
  walk_at "pl_vs"
  refine k_for (fun i Γ => Γ = [some X, some (.lst false (A.map yT)), some (.lst true ((A.take i).map fun y => T.int (maskTo xs y xs.length : Nat))), none, none, none, none, none]) (by simp) ?_ ?_
  · rintro i x Γ hx rfl again ag
    rw [List.getElem?_map] at hx
    obtain ⟨y, hy, rfl⟩ := Option.map_eq_some_iff.mp hx
    have hi := (List.getElem?_eq_some_iff.mp hy).1
    have my := List.mem_of_getElem? hy
    have hlen : ((A.take i).map fun y => T.int (maskTo xs y xs.length : Nat)).length < sizeLine := by
      rw [List.length_map, List.length_take]
      omega
    walk_at "pl_vs"
    refine lX _ ?_
    walk_at "pl_vs"
    refine ⟨by omega, by omega, ?_⟩
    rw [Int.toNat_natCast]
    refine k_for (fun j Γ => Γ = [some X, some (.lst false (A.map yT)), some (.lst true ((A.take i).map fun y => T.int (maskTo xs y xs.length : Nat))), some (yT y), some (.int (maskTo xs y j : Nat)), none, none, none]) rfl ?_ ?_
    · rintro j x Γ hx rfl again2 ag2
      obtain ⟨hj, rfl⟩ := rng0_get hx
      have hs := List.getElem?_eq_getElem hj
      have i1 := iX j _ hs
      generalize xs[j] = s at hs i1
      have fin := ag2 _ rfl
      have hha : hasAt xs y j = has y s := by unfold hasAt; rw [hs]
      rw [maskTo, hha] at fin
      walk_at "pl_vs"
      refine c_law_holds (h4 _ my) (h3 _ (List.mem_of_getElem? hs)) ?_
      walk_at "pl_vs"
      · rename_i hh
        refine o_shl ⟨by omega, by omega, by decide⟩ ?_
        walk_at "pl_vs"
        rw [if_pos hh] at fin
        rw [show (((maskTo xs y j + 2 ^ j : Nat)) : Int) = (maskTo xs y j : Nat) + 1 * 2 ^ ((j : Nat) : Int).toNat by push_cast; rw [Int.one_mul, Int.toNat_natCast]] at fin
        exact fin
      · rename_i hh
        rw [if_neg (by rw [hh]; decide)] at fin
        exact fin
    · rintro Γ rfl
      rw [show ((List.range xs.length).map fun (k : Nat) => T.int k).length = xs.length by simp]
      have fin := ag _ rfl
      rw [List.take_add_one, hy] at fin
      walk_at "pl_vs"
      rw [List.map_append] at fin
      exact fin
  · rintro Γ rfl
    rw [List.length_map, List.take_length]
    have iM : ∀ (i : Nat) y, A[i]? = some y → idxT (.lst true (A.map fun y => T.int (maskTo xs y xs.length : Nat))) (.int (i : Nat)) = some (.int (maskTo xs y xs.length : Nat)) := fun i y h => by
      show L2.atI (A.map _) _ = _
      rw [atI_cast, List.getElem?_map, h]
      rfl
    walk_at "pl_vs"
    rw [List.length_map]
    refine ⟨by omega, by omega, ?_⟩
    rw [Int.toNat_natCast]
    refine k_for (fun i Γ => ∃ acc : List (Say × Say), acc.length ≤ 24 * i ∧ unseenL xs A = acc ++ ((A.zipIdx).drop i).flatMap (fun q => (A.take (q.2 + 1)).filterMap fun z => if (seen xs z q.1).isSome then none else some (z, q.1)) ∧
      Γ = [some X, some (.lst false (A.map yT)), some (.lst true (A.map fun y => T.int (maskTo xs y xs.length : Nat))), none, none, none, some (.lst true (acc.map pT)), none]) ⟨[], by simp, by simp [unseenL], rfl⟩ ?_ ?_
    · rintro i x Γ hx ⟨acc, ha, hc, rfl⟩ again ag
      obtain ⟨hi, rfl⟩ := rng0_get hx
      have hA : A[i]? = some (A[i]'hi) := List.getElem?_eq_getElem hi
      have hi2 : i < A.zipIdx.length := by simpa using hi
      have ez : A.zipIdx[i] = (A[i]'hi, i) := by simp
      rw [List.drop_eq_getElem_cons hi2, ez, List.flatMap_cons] at hc
      simp only at hc
      generalize A[i]'hi = y at hA hc
      have my := List.mem_of_getElem? hA
      have i1 := ix_yTs (o := false) hA
      have m1 := iM i y hA
      walk_at "pl_vs"
      refine ⟨by omega, by omega, ?_⟩
      rw [show ((i : Nat) + 1 : Int).toNat = i + 1 by omega]
      refine k_for (fun j Γ => Γ = [some X, some (.lst false (A.map yT)), some (.lst true (A.map fun y => T.int (maskTo xs y xs.length : Nat))), none, none, some (.int (i : Nat)), some (.lst true ((acc ++ (A.take j).filterMap fun z => if (seen xs z y).isSome then none else some (z, y)).map pT)), none]) (by simp) ?_ ?_
      · rintro j x Γ hx rfl again ag
        obtain ⟨hj, rfl⟩ := rng0_get hx
        have hz : A[j]? = some (A[j]'(by omega)) := List.getElem?_eq_getElem (by omega)
        generalize A[j]'_ = z at hz
        have mz := List.mem_of_getElem? hz
        have i2 := ix_yTs (o := false) hz
        have m2 := iM j z hz
        have hlen : ((acc ++ (A.take j).filterMap fun z => if (seen xs z y).isSome then none else some (z, y)).map pT).length < sizeLine := by
          rw [List.length_map, List.length_append]
          have := List.length_filterMap_le (fun z => if (seen xs z y).isSome then none else some (z, y)) (A.take j)
          rw [List.length_take] at this
          omega
        have fin := ag _ rfl
        rw [List.take_add_one, hz, Option.toList_some, List.filterMap_append, ← List.append_assoc] at fin
        have hm := mask_seen xs z y
        walk_at "pl_vs"
        · rename_i hn
          rw [decide_eq_true hn] at hm
          have hn : (seen xs z y).isSome = false := by simpa using hm.symm
          simp only [List.filterMap_cons, List.filterMap_nil, hn, List.map_append] at fin
          simpa [pT] using fin
        · rename_i hn
          rw [decide_eq_false hn] at hm
          have hn : (seen xs z y).isSome = true := by simpa using hm.symm
          simp only [List.filterMap_cons, List.filterMap_nil, hn, List.map_append] at fin
          simpa [pT] using fin
      · rintro Γ rfl
        rw [show ((List.range (i + 1)).map fun (k : Nat) => T.int k).length = i + 1 by simp]
        walk_at "pl_vs"
        refine ag _ ⟨_, ?_, ?_, rfl⟩
        · rw [List.length_append]
          have := List.length_filterMap_le (fun z => if (seen xs z y).isSome then none else some (z, y)) (A.take (i + 1))
          rw [List.length_take] at this
          omega
        · rw [List.append_assoc]
          exact hc
    · rintro Γ ⟨acc, -, hc, rfl⟩
      rw [show A.zipIdx.drop ((List.range A.length).map fun (k : Nat) => T.int k).length = [] by simp] at hc
      simp only [List.flatMap_nil, List.append_nil] at hc
      rw [hc] at q
      walk_at "pl_vs"
      exact q
theorem v_law_told (h11 : Φ 11 = spF P_made_by) (h18 : Φ 18 = spF P_hull_of) (h24 : Φ 24 = spF P_law_same) (h27 : Φ 27 = spF P_law_sayings) (h29 : Φ 29 = spF P_law_unseen) (h30 : Φ 30 = spF P_law_run) : VC Φ [false, false, false] P_hull_of il__law_told 7 := by
  rintro ts Q - - ⟨fs, xs, s, rfl, hc, q1, q2⟩
  show wpSs Φ il__law_told _ [some (fsT fs), some (xsT xs), some (sT s), none, none, none, none]
  unfold il__law_told
  have s1 := shp_in
  have s2 := shp_out
  have hi := hc.hull
  have cap := hc.cap
  have sl : sizeLine = 16777216 := rfl
  have iy := isFs_yT (allSay fs s)
  have iU := isFs_pT (unseenL xs (allSay fs s))
  have hA24 : (allSay fs s).length ≤ 24 := by
    have := allSay_len fs s
    have := hc.bs.len
    have := hc.few
    omega
  have hA : ∀ y ∈ allSay fs s, Sy fs.length y := fun y h => allSay_Sy h
  have hlx : ∀ x ∈ xs, x.length = fs.length := fun x hm => (hc.bx x hm).len
  walk_at "pl_vs"
  refine c_hull2 hc (fun y hy z hz hn => ?_) fun al ls k hl hr hm => ?_
  · have q := q1 y hy z hz hn
    walk_at "pl_vs"
    refine c_law_sayings hc.bs.len hc.few ?_
    walk_at "pl_vs"
    rw [show fz (.lst true ((allSay fs s).map yT)) = .lst false ((allSay fs s).map yT) from congrArg (T.lst false) (fzs_of_isF _ iy)]
    refine c_law_unseen (n := fs.length) (.inl rfl) cap hA24 hlx hA ?_
    have hU := unseenL_mem hy hz hn
    refine k_bind rfl ?_
    refine s_cons ?_
    refine s_frz rfl ?_
    simp only [List.set_cons_zero, List.set_cons_succ]
    rw [show fz (.lst true ((unseenL xs (allSay fs s)).map pT)) = .lst false ((unseenL xs (allSay fs s)).map pT) from congrArg (T.lst false) (fzs_of_isF _ iU)]
    generalize unseenL xs (allSay fs s) = U at *
    have hUp : 0 < U.length := by rcases hU with h | h <;> exact List.length_pos_of_mem h
    walk_at "pl_vs"
    · rename_i h
      exfalso
      rw [List.length_map, decide_eq_true (by omega)] at h
      exact h rfl
    · rename_i h
      exfalso
      cases U with
      | nil => simp at hUp
      | cons _ _ => simp at h
    · refine k_for (fun i Γ => (∀ p ∈ U.take i, p ≠ (y, z) ∧ p ≠ (z, y)) ∧ Γ = [some (fsT fs), some (xsT xs), some (sT s), some (.tup [.str (Str.ofString "out"), yT y, yT z]), some (.lst false (U.map pT)), none, none]) ⟨by simp, rfl⟩ ?_ ?_
      · rintro i x Γ hx ⟨hp, rfl⟩ again ag
        rw [List.getElem?_map] at hx
        obtain ⟨⟨u, v⟩, hu, rfl⟩ := Option.map_eq_some_iff.mp hx
        have fin : ¬ ((u = y ∧ v = z) ∨ (u = z ∧ v = y)) → again [some (fsT fs), some (xsT xs), some (sT s), some (.tup [.str (Str.ofString "out"), yT y, yT z]), some (.lst false (U.map pT)), none, none] := fun hne => ag _ ⟨fun p hp2 => by
          rw [List.take_add_one, hu] at hp2
          rcases List.mem_append.mp hp2 with h | h
          · exact hp p h
          · simp only [Option.toList_some, List.mem_singleton] at h
            subst h
            exact ⟨fun e => hne (.inl ⟨congrArg Prod.fst e, congrArg Prod.snd e⟩), fun e => hne (.inr ⟨congrArg Prod.fst e, congrArg Prod.snd e⟩)⟩, rfl⟩
        clear ag
        have sm : ∀ (a b : Say) (K : T → Prop), K (.bl (decide (a = b))) → P_law_same [yT a, yT b] K := fun a b K k => by
          refine c_law_same (s := [b.1, b.2.1, b.2.2]) isF_yT ?_
          rw [sameB_yT]
          exact k
        unfold pT
        walk_at "pl_vs"
        refine sm y u _ ?_
        walk_at "pl_vs"
        · refine sm z v _ ?_
          walk_at "pl_vs"
          · exact q
          · refine sm y v _ ?_
            walk_at "pl_vs"
            · refine sm z u _ ?_
              walk_at "pl_vs"
              · exact q
              · exact fin (by rintro (⟨rfl, rfl⟩ | ⟨rfl, rfl⟩) <;> contradiction)
            · exact fin (by rintro (⟨rfl, rfl⟩ | ⟨rfl, rfl⟩) <;> contradiction)
        · refine sm y v _ ?_
          walk_at "pl_vs"
          · refine sm z u _ ?_
            walk_at "pl_vs"
            · exact q
            · exact fin (by rintro (⟨rfl, rfl⟩ | ⟨rfl, rfl⟩) <;> contradiction)
          · exact fin (by rintro (⟨rfl, rfl⟩ | ⟨rfl, rfl⟩) <;> contradiction)
      · rintro Γ ⟨hp, rfl⟩
        rw [List.length_map, List.take_length] at hp
        exfalso
        rcases hU with h | h
        · exact (hp _ h).1 rfl
        · exact (hp _ h).2 rfl
  · have q := q2 al ls k hl hr hm
    have fr : isF (recT ls k) = true := isF_recT
    have i0 : idxT (recT ls k) (.int 0) = some (linesT ls) := rfl
    walk_at "pl_vs"
    refine c_law_sayings hc.bs.len hc.few ?_
    walk_at "pl_vs"
    rw [show fz (.lst true ((allSay fs s).map yT)) = .lst false ((allSay fs s).map yT) from congrArg (T.lst false) (fzs_of_isF _ iy)]
    refine c_law_unseen (n := fs.length) (.inl rfl) cap hA24 hlx hA ?_
    have hU : unseenL xs (allSay fs s) = [] := by
      cases h : unseenL xs (allSay fs s) with
      | nil => rfl
      | cons p U =>
        obtain ⟨m1, m2, m3⟩ := mem_unseenL (p := p) (by rw [h]; exact List.mem_cons_self)
        have := al _ m1 _ m2
        rw [m3] at this
        cases this
    rw [hU]
    walk_at "pl_vs"
    · refine c_law_run hr hm (by omega) ?_
      walk_at "pl_vs"
      refine r_ne (shp_sT _) (shp_sT _) ?_
      rw [eqT_sT, decide_eq_true rfl]
      walk_at "pl_vs"
      · refine c_made_by hm (by omega) ?_
        walk_at "pl_vs"
        refine c_law_same isF_sT ?_
        rw [sameB_sT, decide_eq_true rfl]
        walk_at "pl_vs"
        exact q
      · exact q
    · rename_i h
      cases h
theorem v_law_both (h20 : Φ 20 = spF P_is_hull) (h31 : Φ 31 = spF P_hull_of) : VC Φ [false, false, false, false] P_law_both il__law_both 6 := by
  rintro ts Q - - ⟨fs, W, S, s, rfl, hc, hc2, al, q⟩
  show wpSs Φ il__law_both _ [some (fsT fs), some (xsT W), some (xsT S), some (sT s), none, none]
  unfold il__law_both
  have s1 := shp_in
  have s2 := shp_out
  walk_at "pl_vs"
  refine c_hull2 hc (fun y hy z hz hn => ?_) fun _ ls k hl hr hm => ?_
  · have := al y hy z hz
    rw [hn] at this
    cases this
  have fr : isF (recT ls k) = true := isF_recT
  walk_at "pl_vs"
  have ask1 : Askable W (.tup [.str (Str.ofString "in"), recT ls k]) := ask_in (isFs_cons isF_recT isFs_nil) (rec_few hc.cap hl)
  have h1 : isHull fs W s (.tup [.str (Str.ofString "in"), recT ls k]) = true := by rw [hull_in, makes_rec hr hm]
  refine c_hull2 hc2 (fun y hy z hz hn => ?_) fun _ ls2 k2 hl2 hr2 hm2 => ?_
  · have ask2 : ∀ X, Askable X (.tup [.str (Str.ofString "out"), yT y, yT z]) := fun X => ask_out (isFs_cons isF_yT (isFs_cons isF_yT isFs_nil)) fun _ _ => .inl (by intro h; cases h)
    have h2 : isHull fs S s (.tup [.str (Str.ofString "out"), yT y, yT z]) = true := by rw [hull_out, unseenB_own hc2.bs hy hz, hn]; rfl
    have h3 : isHull fs W s (.tup [.str (Str.ofString "out"), yT y, yT z]) = false := by
      rw [hull_out, unseenB_own hc.bs hy hz]
      have := al y hy z hz
      cases h : seen W y z with
      | none => rw [h] at this; cases this
      | some _ => rfl
    walk_at "pl_vs"
    refine c_is_hull hc ask1 ?_
    rw [h1]
    walk_at "pl_vs"
    refine c_is_hull hc2 (ask2 _) ?_
    rw [h2]
    walk_at "pl_vs"
    refine c_is_hull hc (ask2 _) ?_
    rw [h3]
    walk_at "pl_vs"
    exact q
  · have ask2 : Askable S (.tup [.str (Str.ofString "in"), recT ls2 k2]) := ask_in (isFs_cons isF_recT isFs_nil) (rec_few hc2.cap hl2)
    have h2 : isHull fs S s (.tup [.str (Str.ofString "in"), recT ls2 k2]) = true := by rw [hull_in, makes_rec hr2 hm2]
    have fr2 : isF (recT ls2 k2) = true := isF_recT
    walk_at "pl_vs"
    refine c_is_hull hc ask1 ?_
    rw [h1]
    walk_at "pl_vs"
    refine c_is_hull hc2 ask2 ?_
    rw [h2]
    walk_at "pl_vs"
    exact q
end

/-! k80: the web, the groups, in plain Lean. -/
structure All2 {α β : Type} (R : α → β → Prop) (xs : List α) (ys : List β) : Prop where
  len : ys.length = xs.length
  at_ : ∀ (i : Nat) x y, xs[i]? = some x → ys[i]? = some y → R x y
theorem All2.app {α β : Type} {R : α → β → Prop} {xs xs' : List α} {ys ys' : List β} (h : All2 R xs ys) (h' : All2 R xs' ys') : All2 R (xs ++ xs') (ys ++ ys') := by
  refine ⟨by simp [h.len, h'.len], fun i x y hx hy => ?_⟩
  by_cases hi : i < xs.length
  · rw [List.getElem?_append_left hi] at hx
    rw [List.getElem?_append_left (by rw [h.len]; exact hi)] at hy
    exact h.at_ i x y hx hy
  · rw [List.getElem?_append_right (by omega)] at hx
    rw [List.getElem?_append_right (by rw [h.len]; omega), h.len] at hy
    exact h'.at_ _ x y hx hy
theorem All2.one {α β : Type} {R : α → β → Prop} {x : α} {y : β} (h : R x y) : All2 R [x] [y] :=
  ⟨rfl, fun i a b h1 h2 => by
    cases i with
    | zero => simp at h1 h2; subst h1; subst h2; exact h
    | succ i => simp at h1⟩
theorem All2.take {α β : Type} {R : α → β → Prop} {xs : List α} {ys : List β} (h : All2 R xs ys) (n : Nat) : All2 R (xs.take n) (ys.take n) := by
  refine ⟨by simp [h.len], fun i x y hx hy => ?_⟩
  rw [List.getElem?_take] at hx hy
  split at hx
  · rename_i hi
    rw [if_pos hi] at hy
    exact h.at_ i x y hx hy
  · cases hx
theorem All2.drop {α β : Type} {R : α → β → Prop} {xs : List α} {ys : List β} (h : All2 R xs ys) (n : Nat) : All2 R (xs.drop n) (ys.drop n) := by
  refine ⟨by simp [h.len], fun i x y hx hy => ?_⟩
  rw [List.getElem?_drop] at hx hy
  exact h.at_ _ x y hx hy
def pairsTo (n : Nat) : List (Nat × Nat) := (List.range n).flatMap fun k => (List.range k).map fun j => (k, j)
theorem pairsTo_succ (n : Nat) : pairsTo (n + 1) = pairsTo n ++ (List.range n).map fun j => (n, j) := by
  unfold pairsTo
  rw [List.range_succ, List.flatMap_append]
  simp
/-- ends of fields with two answers at least -/
structure Ends2 (fs : List Fld) (e : Sheet) : Prop where
  bx : Box fs e
  at_ : ∀ (i : Nat) f a, fs[i]? = some f → e[i]? = some a → f.2.1 < f.2.2 ∧ (a = f.2.1 ∨ a = f.2.2)
def yOf (fs : List Fld) (e : Sheet) (i : Nat) : Say := match fs[i]?, e[i]? with
  | some f, some a => if a = f.2.1 then ((i : Int), -1, a) else ((i : Int), 1, a)
  | _, _ => (0, 1, 0)
theorem ends_say {fs : List Fld} {e : Sheet} (h : Ends2 fs e) : allSay fs e = (List.range fs.length).map (yOf fs e) := by
  have h1 : allSay fs e = e.zipIdx.map fun q => yOf fs e q.2 := by
    unfold allSay
    have : ∀ l : List (Int × Nat), (∀ q ∈ l, e[q.2]? = some q.1) → (l.flatMap fun q => match fs[q.2]? with | some f => asay q.2 f q.1 | none => []) = l.map fun q => yOf fs e q.2 := by
      intro l hl
      induction l with
      | nil => rfl
      | cons q l ih =>
        rw [List.flatMap_cons, ih (fun q hq => hl q (List.mem_cons_of_mem _ hq)), List.map_cons]
        have hq := hl q List.mem_cons_self
        have hi : q.2 < fs.length := by
          have := (List.getElem?_eq_some_iff.mp hq).1
          rw [h.bx.len] at this
          exact this
        have hf := List.getElem?_eq_getElem hi
        obtain ⟨h1, h2⟩ := h.at_ q.2 _ _ hf hq
        unfold yOf
        rw [hf, hq]
        simp only
        unfold asay
        rcases h2 with h2 | h2
        · have x1 : q.1 < fs[q.2].2.2 := by omega
          have x2 : ¬ fs[q.2].2.1 < q.1 := by omega
          rw [if_pos h2, if_pos x1, if_neg x2]
          rfl
        · have x1 : ¬ q.1 < fs[q.2].2.2 := by omega
          have x2 : fs[q.2].2.1 < q.1 := by omega
          have x3 : ¬ q.1 = fs[q.2].2.1 := by omega
          rw [if_neg x3, if_neg x1, if_pos x2]
          rfl
    exact this _ fun q hq => List.mk_mem_zipIdx_iff_getElem?.mp hq
  rw [h1, show (fun q : Int × Nat => yOf fs e q.2) = yOf fs e ∘ Prod.snd from rfl, ← List.map_map, List.zipIdx_map_snd, h.bx.len, ← List.range_eq_range']
/-- the answer of a field is the sheet's own, or no end -/
def Ag (fs : List Fld) (e w : Sheet) (i : Nat) (c : Bool) : Prop := ∀ f a b, fs[i]? = some f → e[i]? = some a → w[i]? = some b → if c = true then b = a else (a = f.2.1 → f.2.1 < b) ∧ (a ≠ f.2.1 → b < f.2.2)
theorem has_ag {fs : List Fld} {e w : Sheet} (h : Ends2 fs e) (bw : Box fs w) {i : Nat} (hi : i < fs.length) {c : Bool} (g : Ag fs e w i c) : has (yOf fs e i) w = c := by
  have hf := List.getElem?_eq_getElem hi
  have he := List.getElem?_eq_getElem (l := e) (i := i) (by rw [h.bx.len]; exact hi)
  have hw := List.getElem?_eq_getElem (l := w) (i := i) (by rw [bw.len]; exact hi)
  obtain ⟨h1, h2⟩ := h.at_ i _ _ hf he
  have h3 := g _ _ _ hf he hw
  have h4 := bw.inn i _ _ hf hw
  have key : ∀ (y : Say) (a : Int), y.1 = (i : Int) → w[i]? = some a → has y w = hld y a := fun y a e1 e2 => by
    unfold has
    rw [e1, atI_cast, e2]
  unfold yOf
  rw [hf, he]
  simp only
  generalize fs[i] = f at *
  generalize e[i]'_ = a at *
  generalize w[i]'_ = b at *
  cases c with
  | true =>
    rw [if_pos rfl] at h3
    subst h3
    split
    · rw [key _ b rfl hw]; simp [hld]
    · rw [key _ b rfl hw]; simp [hld]
  | false =>
    rw [if_neg (by decide)] at h3
    split
    · rename_i ha
      rw [key _ b rfl hw]
      have := h3.1 ha
      simp [hld]
      omega
    · rename_i ha
      rw [key _ b rfl hw]
      have := h3.2 ha
      simp [hld]
      omega
def unseenN (n : Nat) (sb : Nat → Nat → Bool) : List (Nat × Nat) := (List.range n).flatMap fun k => (List.range (k + 1)).filterMap fun j => if sb j k then none else some (j, k)
theorem unseen_gen {fs : List Fld} {e : Sheet} {W : List Sheet} (h : Ends2 fs e) : unseenL W (allSay fs e) = (unseenN fs.length fun j k => (seen W (yOf fs e j) (yOf fs e k)).isSome).map fun p => (yOf fs e p.1, yOf fs e p.2) := by
  rw [ends_say h]
  unfold unseenL unseenN
  have hz : ((List.range fs.length).map (yOf fs e)).zipIdx = (List.range fs.length).map fun k => (yOf fs e k, k) := by
    apply List.ext_getElem?
    intro i
    rw [List.getElem?_zipIdx, List.getElem?_map, List.getElem?_map]
    by_cases hi : i < fs.length
    · rw [List.getElem?_range hi]
      simp
    · rw [List.getElem?_eq_none (by simp; omega)]
      rfl
  rw [hz, List.flatMap_map, List.map_flatMap]
  have : ∀ l : List Nat, (∀ k ∈ l, k < fs.length) → (l.flatMap fun k => (((List.range fs.length).map (yOf fs e)).take (k + 1)).filterMap fun z => if (seen W z (yOf fs e k)).isSome then none else some (z, yOf fs e k)) = l.flatMap fun k => ((List.range (k + 1)).filterMap fun j => if (seen W (yOf fs e j) (yOf fs e k)).isSome then none else some (j, k)).map fun p => (yOf fs e p.1, yOf fs e p.2) := by
    intro l hl
    induction l with
    | nil => rfl
    | cons k l ih =>
      rw [List.flatMap_cons, List.flatMap_cons, ih fun k hk => hl k (List.mem_cons_of_mem _ hk)]
      congr 1
      have hk := hl k List.mem_cons_self
      rw [← List.map_take, List.take_range, Nat.min_eq_left (by omega), List.filterMap_map, List.map_filterMap]
      apply filterMap_eq
      intro j hj
      rw [List.mem_range] at hj
      simp only [Function.comp]
      cases (seen W (yOf fs e j) (yOf fs e k)).isSome <;> rfl
  exact this _ fun k hk => List.mem_range.mp hk
theorem flat_one {α : Type} {n q : Nat} {l : List α} (h : q < n) : ((List.range n).flatMap fun k => if k = q then l else []) = l := by
  induction n with
  | zero => omega
  | succ n ih =>
    rw [List.range_succ, List.flatMap_append]
    by_cases hq : q = n
    · subst hq
      have : ((List.range q).flatMap fun k => if k = q then l else []) = [] := by
        rw [List.flatMap_eq_nil_iff]
        intro k hk
        rw [List.mem_range] at hk
        rw [if_neg (by omega)]
      rw [this]
      simp
    · rw [ih (by omega)]
      simp [show ¬ n = q from fun e => hq e.symm]
theorem map_one {α : Type} {n p : Nat} {x : α} (h : p < n) : ((List.range n).filterMap fun j => if j = p then some x else none) = [x] := by
  induction n with
  | zero => omega
  | succ n ih =>
    rw [List.range_succ, List.filterMap_append]
    by_cases hq : p = n
    · subst hq
      have : ((List.range p).filterMap fun j => if j = p then some x else none) = [] := by
        rw [List.filterMap_eq_nil_iff]
        intro k hk
        rw [List.mem_range] at hk
        rw [if_neg (by omega)]
      rw [this]
      simp
    · rw [ih (by omega)]
      simp [show ¬ n = p from fun e => hq e.symm]
theorem flatMap_eq {α β : Type} {f g : α → List β} : ∀ {l : List α}, (∀ x ∈ l, f x = g x) → l.flatMap f = l.flatMap g
  | [], _ => rfl
  | x :: l, h => by
    rw [List.flatMap_cons, List.flatMap_cons, h x List.mem_cons_self, flatMap_eq fun y hy => h y (List.mem_cons_of_mem _ hy)]
theorem unseenN_one {n p q : Nat} {sb : Nat → Nat → Bool} (hpq : p < q) (hq : q < n) (h : ∀ j k, j < n → k < n → (sb j k = false ↔ (j = p ∧ k = q) ∨ (j = q ∧ k = p))) : unseenN n sb = [(p, q)] := by
  unfold unseenN
  have : ∀ k ∈ List.range n, ((List.range (k + 1)).filterMap fun j => if sb j k then none else some (j, k)) = if k = q then [(p, q)] else [] := fun k hk => by
    rw [List.mem_range] at hk
    by_cases hkq : k = q
    · subst hkq
      rw [if_pos rfl, ← map_one (n := k + 1) (p := p) (x := (p, k)) (by omega)]
      apply filterMap_eq
      intro j hj
      rw [List.mem_range] at hj
      have := h j k (by omega) hk
      by_cases hjp : j = p
      · subst hjp
        rw [this.mpr (.inl ⟨rfl, rfl⟩), if_pos rfl]
        rfl
      · rw [if_neg hjp]
        cases hs : sb j k with
        | true => rfl
        | false =>
          rcases this.mp hs with h | h <;> omega
    · rw [if_neg hkq, List.filterMap_eq_nil_iff]
      intro j hj
      rw [List.mem_range] at hj
      cases hs : sb j k with
      | true => rfl
      | false =>
        rcases (h j k (by omega) hk).mp hs with h | h <;> omega
  rw [flatMap_eq this]
  exact flat_one hq
theorem unseen_one {fs : List Fld} {e : Sheet} {S : List Sheet} (h : Ends2 fs e) {p q : Nat} (hp : p < fs.length) (hq : q < fs.length) (hne : p ≠ q) (hs : ∀ j k, j < fs.length → k < fs.length → ((seen S (yOf fs e j) (yOf fs e k)).isSome = false ↔ (j = p ∧ k = q) ∨ (j = q ∧ k = p))) : (unseenL S (allSay fs e)).length = 1 := by
  rw [unseen_gen h, List.length_map]
  rcases Nat.lt_or_gt_of_ne hne with h1 | h1
  · rw [unseenN_one h1 hq hs]
    rfl
  · rw [unseenN_one h1 hp fun j k hj hk => (hs j k hj hk).trans ⟨Or.symm, Or.symm⟩]
    rfl
/-! ### a drawn sequence of the fields -/
def snd1 : T → T
  | .tup [_, x] => x
  | t => t
theorem order_of {n : Nat} {Y : List T} (h : Rel2 (fun x y => ∃ (j : Nat) (r : Int), x = .int (j : Nat) ∧ y = .tup [.int r, .int (j : Nat)]) ((List.range n).map fun (k : Nat) => T.int k) Y) :
    isFs Y = true ∧ sortable Y ∧ isFs (Y.mergeSort (PySem.W.dataLe false data)) = true ∧ (∀ t ∈ Y.mergeSort (PySem.W.dataLe false data), ∃ r j : Int, t = .tup [.int r, .int j]) ∧
    ∃ O : List Nat, (Y.mergeSort (PySem.W.dataLe false data)).map snd1 = O.map (fun (k : Nat) => T.int k) ∧ O.Perm (List.range n) := by
  have hY : ∀ t ∈ Y, ∃ r j : Int, t = .tup [.int r, .int j] := fun t ht => by
    obtain ⟨i, hi⟩ := List.mem_iff_getElem?.mp ht
    have hl := (List.getElem?_eq_some_iff.mp hi).1
    rw [h.1] at hl
    obtain ⟨j, r, -, e⟩ := h.2 i _ t (List.getElem?_eq_getElem hl) hi
    exact ⟨r, j, e⟩
  have hperm := List.mergeSort_perm Y (PySem.W.dataLe false data)
  have hS : ∀ t ∈ Y.mergeSort (PySem.W.dataLe false data), ∃ r j : Int, t = .tup [.int r, .int j] := fun t ht => hY t (hperm.mem_iff.mp ht)
  have hd : ∀ d ∈ datas Y, ∃ r j : Int, d = .tuple [.int r, .int j] := fun d hd => by
    rw [datas_map] at hd
    obtain ⟨t, ht, rfl⟩ := List.mem_map.mp hd
    obtain ⟨r, j, rfl⟩ := hY t ht
    exact ⟨r, j, rfl⟩
  have isf : ∀ l : List T, (∀ t ∈ l, ∃ r j : Int, t = .tup [.int r, .int j]) → isFs l = true := fun l hl => by
    rw [isFs_all, List.all_eq_true]
    intro t ht
    obtain ⟨r, j, rfl⟩ := hl t ht
    rfl
  refine ⟨isf _ hY, ⟨fun d h1 d' h2 => ?_, .inl fun d h1 => ?_, fun t ht => ?_⟩, isf _ hS, hS, ?_⟩
  · obtain ⟨r, j, rfl⟩ := hd d h1
    obtain ⟨r', j', rfl⟩ := hd d' h2
    simp [PySem.W.alike, PySem.W.alikeAll]
  · obtain ⟨r, j, rfl⟩ := hd d h1
    exact ⟨_, _, rfl⟩
  · obtain ⟨r, j, rfl⟩ := hY t ht
    exact shp_sT [r, j]
  · have hsnd : Y.map snd1 = (List.range n).map fun (k : Nat) => T.int k := by
      apply List.ext_getElem?
      intro i
      by_cases hi : i < n
      · have hl : i < Y.length := by rw [h.1]; simpa using hi
        obtain ⟨j, r, e1, e2⟩ := h.2 i _ _ (by rw [List.getElem?_map, List.getElem?_range hi]; rfl) (List.getElem?_eq_getElem hl)
        rw [List.getElem?_map, List.getElem?_eq_getElem hl, e2, List.getElem?_map, List.getElem?_range hi]
        simp only [Option.map_some, snd1, e1]
      · rw [List.getElem?_eq_none (by rw [List.length_map, h.1]; simpa using hi), List.getElem?_eq_none (by simpa using hi)]
    have hp2 : ((Y.mergeSort (PySem.W.dataLe false data)).map snd1).Perm ((List.range n).map fun (k : Nat) => T.int k) := by
      rw [← hsnd]
      exact hperm.map snd1
    generalize (Y.mergeSort (PySem.W.dataLe false data)).map snd1 = L at hp2
    let g : T → Nat := fun t => match t with
      | .int i => i.toNat
      | _ => 0
    refine ⟨L.map g, ?_, ?_⟩
    · rw [List.map_map]
      symm
      have : ∀ l : List T, (∀ t ∈ l, ∃ k : Nat, t = .int (k : Nat)) → l.map ((fun (k : Nat) => T.int k) ∘ g) = l := fun l hl => by
        induction l with
        | nil => rfl
        | cons x l ih =>
          obtain ⟨k, rfl⟩ := hl x List.mem_cons_self
          rw [List.map_cons, ih fun t ht => hl t (List.mem_cons_of_mem _ ht)]
          simp [g]
      refine this L fun t ht => ?_
      obtain ⟨k, -, e⟩ := List.mem_map.mp (hp2.mem_iff.mp ht)
      exact ⟨k, e.symm⟩
    · have := hp2.map g
      rw [List.map_map] at this
      have e : (g ∘ fun (k : Nat) => T.int k) = id := by
        funext k
        simp [g]
      rw [e, List.map_id] at this
      exact this
structure Or (n : Nat) (O : List Nat) : Prop where
  p : O.Perm (List.range n)
theorem Or.len {n : Nat} {O : List Nat} (h : Or n O) : O.length = n := by rw [h.p.length_eq, List.length_range]
theorem Or.lt {n : Nat} {O : List Nat} (h : Or n O) {t i : Nat} (e : O[t]? = some i) : i < n := List.mem_range.mp (h.p.mem_iff.mp (List.mem_of_getElem? e))
theorem Or.ex {n : Nat} {O : List Nat} (h : Or n O) {i : Nat} (hi : i < n) : ∃ t, t < n ∧ O[t]? = some i := by
  obtain ⟨t, ht⟩ := List.mem_iff_getElem?.mp (h.p.mem_iff.mpr (List.mem_range.mpr hi))
  exact ⟨t, by have := (List.getElem?_eq_some_iff.mp ht).1; rw [h.len] at this; exact this, ht⟩
theorem Or.inj {n : Nat} {O : List Nat} (h : Or n O) {t u i : Nat} (e1 : O[t]? = some i) (e2 : O[u]? = some i) : t = u := by
  have nd : O.Nodup := h.p.nodup_iff.mpr List.nodup_range
  obtain ⟨h1, g1⟩ := List.getElem?_eq_some_iff.mp e1
  obtain ⟨h2, g2⟩ := List.getElem?_eq_some_iff.mp e2
  exact (List.getElem_inj nd).mp (g1.trans g2.symm)
/-! ### the web -/
structure IsQ (fs : List Fld) (e : Sheet) (O : List Nat) (m : Nat) (p : Nat × Nat) (w : Sheet) : Prop where
  bx : Box fs w
  at_ : ∀ (t i : Nat), O[t]? = some i → Ag fs e w i (decide (m ≤ t ∨ t = p.1 ∨ t = p.2))
structure IsX (fs : List Fld) (e : Sheet) (O : List Nat) (m : Nat) (w : Sheet) : Prop where
  bx : Box fs w
  at_ : ∀ (t i : Nat), O[t]? = some i → 1 ≤ t → t < m → Ag fs e w i false
def inP (m t : Nat) (p : Nat × Nat) : Bool := decide (m ≤ t ∨ t = p.1 ∨ t = p.2)
def sbQ (m : Nat) (P : List (Nat × Nat)) (t u : Nat) : Bool := P.any fun p => inP m t p && inP m u p
def cutP (m g : Nat) : List (Nat × Nat) := (pairsTo m).take g ++ (pairsTo m).drop (g + 1)
theorem pairs_ok : ∀ m : Fin 2, ∀ g : Fin 36, g.val < (pairsTo (m.val + 8)).length → ((pairsTo (m.val + 8)).getD g.val (0, 0)).2 < ((pairsTo (m.val + 8)).getD g.val (0, 0)).1 ∧ ((pairsTo (m.val + 8)).getD g.val (0, 0)).1 < m.val + 8 ∧
    ∀ t : Fin 10, ∀ u : Fin 10, sbQ (m.val + 8) (cutP (m.val + 8) g.val) t.val u.val = !(decide (t.val = ((pairsTo (m.val + 8)).getD g.val (0, 0)).1 ∧ u.val = ((pairsTo (m.val + 8)).getD g.val (0, 0)).2) || decide (t.val = ((pairsTo (m.val + 8)).getD g.val (0, 0)).2 ∧ u.val = ((pairsTo (m.val + 8)).getD g.val (0, 0)).1)) := by decide +kernel
theorem pairs_all : ∀ m : Fin 2, (pairsTo (m.val + 8)).length ≤ 36 ∧ 28 ≤ (pairsTo (m.val + 8)).length ∧ ∀ t : Fin 10, ∀ u : Fin 10, sbQ (m.val + 8) (pairsTo (m.val + 8)) t.val u.val = true := by decide +kernel
theorem inP_cap {m t : Nat} {p : Nat × Nat} (hm : m ≤ 9) (hp1 : p.1 < m) (hp2 : p.2 < m) : inP m t p = inP m (min t 9) p := by
  unfold inP
  refine decide_eq_decide.mpr ?_
  omega

/-! k80: what the web shows. -/
theorem mem_pairs {m : Nat} {p : Nat × Nat} (h : p ∈ pairsTo m) : p.2 < p.1 ∧ p.1 < m := by
  unfold pairsTo at h
  obtain ⟨k, hk, h2⟩ := List.mem_flatMap.mp h
  obtain ⟨j, hj, rfl⟩ := List.mem_map.mp h2
  rw [List.mem_range] at hk hj
  exact ⟨hj, hk⟩
theorem has_Q {fs : List Fld} {e w : Sheet} {O : List Nat} {m : Nat} {p : Nat × Nat} (h : Ends2 fs e) (o : Or fs.length O) (g : IsQ fs e O m p w) {t i : Nat} (e1 : O[t]? = some i) : has (yOf fs e i) w = inP m t p :=
  has_ag h g.bx (o.lt e1) (g.at_ t i e1)
theorem say_of {fs : List Fld} {e : Sheet} (h : Ends2 fs e) {y : Say} (hy : y ∈ allSay fs e) : ∃ i, i < fs.length ∧ y = yOf fs e i := by
  rw [ends_say h] at hy
  obtain ⟨i, hi, rfl⟩ := List.mem_map.mp hy
  exact ⟨i, List.mem_range.mp hi, rfl⟩
theorem web_all {fs : List Fld} {e : Sheet} {O : List Nat} {m : Nat} {Wb W : List Sheet} (h : Ends2 fs e) (o : Or fs.length O) (hm : m = 8 ∨ m = 9) (g : All2 (IsQ fs e O m) (pairsTo m) Wb) (sub : ∀ x ∈ Wb, x ∈ W) : AllSeen fs W e := by
  obtain ⟨m', rfl⟩ : ∃ m' : Fin 2, m = m'.val + 8 := by
    rcases hm with rfl | rfl
    · exact ⟨0, rfl⟩
    · exact ⟨1, rfl⟩
  intro y hy z hz
  obtain ⟨i, hi, rfl⟩ := say_of h hy
  obtain ⟨j, hj, rfl⟩ := say_of h hz
  obtain ⟨t, ht, et⟩ := o.ex hi
  obtain ⟨u, hu, eu⟩ := o.ex hj
  have := (pairs_all m').2.2 ⟨min t 9, by omega⟩ ⟨min u 9, by omega⟩
  unfold sbQ at this
  rw [List.any_eq_true] at this
  obtain ⟨p, hp, hb⟩ := this
  obtain ⟨p1, p2⟩ := mem_pairs hp
  have m9 : m'.val + 8 ≤ 9 := by have := m'.isLt; omega
  simp only at hb
  rw [← inP_cap m9 p2 (by omega), ← inP_cap m9 p2 (by omega), Bool.and_eq_true] at hb
  obtain ⟨x, hx⟩ := List.mem_iff_getElem?.mp hp
  have hl := (List.getElem?_eq_some_iff.mp hx).1
  rw [← g.len] at hl
  have hw := List.getElem?_eq_getElem hl
  have q := g.at_ x _ _ hx hw
  exact seen_some.mpr ⟨_, sub _ (List.mem_of_getElem? hw), by rw [has_Q h o q et]; exact hb.1, by rw [has_Q h o q eu]; exact hb.2⟩
theorem web_one {fs : List Fld} {e : Sheet} {O : List Nat} {m g : Nat} {Wb X : List Sheet} (h : Ends2 fs e) (o : Or fs.length O) (hm : m = 8 ∨ m = 9) (hmn : m ≤ fs.length) (hg : g < (pairsTo m).length) (q : All2 (IsQ fs e O m) (cutP m g) Wb) (hX : ∀ x ∈ X, IsX fs e O m x) : (unseenL (Wb ++ X) (allSay fs e)).length = 1 := by
  obtain ⟨m', rfl⟩ : ∃ m' : Fin 2, m = m'.val + 8 := by
    rcases hm with rfl | rfl
    · exact ⟨0, rfl⟩
    · exact ⟨1, rfl⟩
  have l36 := (pairs_all m').1
  obtain ⟨b1, b2, b3⟩ := pairs_ok m' ⟨g, by omega⟩ hg
  have m9 : m'.val + 8 ≤ 9 := by have := m'.isLt; omega
  simp only at b1 b2 b3
  generalize (pairsTo (m'.val + 8)).getD g (0, 0) = ab at *
  obtain ⟨a, b⟩ := ab
  simp only at b1 b2 b3
  have ea : O[a]? = some (O[a]'(by rw [o.len]; omega)) := List.getElem?_eq_getElem _
  have eb : O[b]? = some (O[b]'(by rw [o.len]; omega)) := List.getElem?_eq_getElem _
  generalize O[a]'_ = p at ea
  generalize O[b]'_ = p' at eb
  refine unseen_one h (o.lt ea) (o.lt eb) (fun hpp => ?_) fun j k hj hk => ?_
  · subst hpp
    have := o.inj ea eb
    omega
  obtain ⟨t, ht, et⟩ := o.ex hj
  obtain ⟨u, hu, eu⟩ := o.ex hk
  have hQ : ∀ pr ∈ cutP (m'.val + 8) g, pr.2 < pr.1 ∧ pr.1 < m'.val + 8 := fun pr hpr => by
    unfold cutP at hpr
    rcases List.mem_append.mp hpr with h | h
    · exact mem_pairs (List.mem_of_mem_take h)
    · exact mem_pairs (List.mem_of_mem_drop h)
  have sq : sbQ (m'.val + 8) (cutP (m'.val + 8) g) t u = sbQ (m'.val + 8) (cutP (m'.val + 8) g) (min t 9) (min u 9) := by
    unfold sbQ
    have : ∀ P : List (Nat × Nat), (∀ pr ∈ P, pr.2 < pr.1 ∧ pr.1 < m'.val + 8) → (P.any fun p => inP (m'.val + 8) t p && inP (m'.val + 8) u p) = P.any fun p => inP (m'.val + 8) (min t 9) p && inP (m'.val + 8) (min u 9) p := fun P hP => by
      induction P with
      | nil => rfl
      | cons x P ih =>
        obtain ⟨x1, x2⟩ := hP x List.mem_cons_self
        rw [List.any_cons, List.any_cons, ih fun pr h => hP pr (List.mem_cons_of_mem _ h), inP_cap (t := t) m9 x2 (by omega), inP_cap (t := u) m9 x2 (by omega)]
    exact this _ hQ
  have b3 := b3 ⟨min t 9, by omega⟩ ⟨min u 9, by omega⟩
  simp only at b3
  rw [← sq] at b3
  have pos : ((j = p ∧ k = p') ∨ (j = p' ∧ k = p)) ↔ ((t = a ∧ u = b) ∨ (t = b ∧ u = a)) := by
    constructor
    · rintro (⟨rfl, rfl⟩ | ⟨rfl, rfl⟩)
      · exact .inl ⟨o.inj et ea, o.inj eu eb⟩
      · exact .inr ⟨o.inj et eb, o.inj eu ea⟩
    · rintro (⟨rfl, rfl⟩ | ⟨rfl, rfl⟩)
      · rw [et] at ea
        rw [eu] at eb
        exact .inl ⟨Option.some.inj ea, Option.some.inj eb⟩
      · rw [et] at eb
        rw [eu] at ea
        exact .inr ⟨Option.some.inj eb, Option.some.inj ea⟩
  rw [pos]
  have b3' : sbQ (m'.val + 8) (cutP (m'.val + 8) g) t u = !decide ((t = a ∧ u = b) ∨ (t = b ∧ u = a)) := by
    rw [b3, Bool.decide_or]
    congr 2
    · exact decide_eq_decide.mpr (by omega)
    · exact decide_eq_decide.mpr (by omega)
  constructor
  · intro hs
    cases hd : decide ((t = a ∧ u = b) ∨ (t = b ∧ u = a)) with
    | true => exact of_decide_eq_true hd
    | false =>
      exfalso
      rw [hd] at b3'
      unfold sbQ at b3'
      rw [Bool.not_false, List.any_eq_true] at b3'
      obtain ⟨pr, hpr, hb⟩ := b3'
      rw [Bool.and_eq_true] at hb
      obtain ⟨x, hx⟩ := List.mem_iff_getElem?.mp hpr
      have hl := (List.getElem?_eq_some_iff.mp hx).1
      rw [← q.len] at hl
      have hw := List.getElem?_eq_getElem hl
      have iq := q.at_ x _ _ hx hw
      have : (seen (Wb ++ X) (yOf fs e j) (yOf fs e k)).isSome = true := seen_some.mpr ⟨_, List.mem_append_left _ (List.mem_of_getElem? hw), by rw [has_Q h o iq et]; exact hb.1, by rw [has_Q h o iq eu]; exact hb.2⟩
      rw [hs] at this
      cases this
  · intro hab
    cases hs : (seen (Wb ++ X) (yOf fs e j) (yOf fs e k)).isSome with
    | false => rfl
    | true =>
      exfalso
      obtain ⟨w, hw, h1, h2⟩ := seen_some.mp hs
      rcases List.mem_append.mp hw with hw | hw
      · obtain ⟨x, hx⟩ := List.mem_iff_getElem?.mp hw
        have hl := (List.getElem?_eq_some_iff.mp hx).1
        rw [q.len] at hl
        have hp := List.getElem?_eq_getElem hl
        have iq := q.at_ x _ _ hp hx
        rw [has_Q h o iq et] at h1
        rw [has_Q h o iq eu] at h2
        rw [decide_eq_true hab, Bool.not_true] at b3'
        have : sbQ (m'.val + 8) (cutP (m'.val + 8) g) t u = true := by
          unfold sbQ
          rw [List.any_eq_true]
          exact ⟨_, List.mem_of_getElem? hp, by rw [h1, h2]; rfl⟩
        rw [b3'] at this
        cases this
      · have ix := hX w hw
        rcases hab with ⟨rfl, rfl⟩ | ⟨rfl, rfl⟩
        · rw [has_ag h ix.bx hj (ix.at_ t j et (by omega) b2)] at h1
          cases h1
        · rw [has_ag h ix.bx hk (ix.at_ u k eu (by omega) b2)] at h2
          cases h2
theorem web_not {fs : List Fld} {e : Sheet} {S : List Sheet} (h : (unseenL S (allSay fs e)).length = 1) : ¬ AllSeen fs S e := fun al => by
  obtain ⟨p, hp⟩ := List.exists_mem_of_length_pos (l := unseenL S (allSay fs e)) (by omega)
  obtain ⟨m1, m2, m3⟩ := mem_unseenL hp
  have := al _ m1 _ m2
  rw [m3] at this
  cases this
/-! ### one sheet of the web, field by field -/
structure Wv (fs : List Fld) (e : Sheet) (O : List Nat) (k j t : Nat) (B : Sheet) : Prop where
  bx : Box fs B
  at_ : ∀ (u i : Nat), O[u]? = some i → Ag fs e B i (decide (t ≤ u ∨ u = k ∨ u = j))
theorem Wv.start {fs : List Fld} {e : Sheet} {O : List Nat} {k j : Nat} (b : Box fs e) : Wv fs e O k j 0 e := ⟨b, fun u i hu f a b' h1 h2 h3 => by
  rw [decide_eq_true (.inl (Nat.zero_le _)), if_pos rfl]
  rw [h2] at h3
  exact (Option.some.inj h3).symm⟩
theorem Wv.skip {fs : List Fld} {e B : Sheet} {O : List Nat} {k j t : Nat} (w : Wv fs e O k j t B) (h : t = k ∨ t = j) : Wv fs e O k j (t + 1) B := ⟨w.bx, fun u i hu => by
  have := w.at_ u i hu
  rwa [show decide (t + 1 ≤ u ∨ u = k ∨ u = j) = decide (t ≤ u ∨ u = k ∨ u = j) from decide_eq_decide.mpr (by omega)]⟩
theorem Wv.set {fs : List Fld} {e B : Sheet} {O : List Nat} {k j t i : Nat} {v : Int} {f : Fld} {a : Int} (o : Or fs.length O) (w : Wv fs e O k j t B) (hk : t ≠ k) (hj : t ≠ j) (ht : O[t]? = some i) (hf : fs[i]? = some f) (ha : e[i]? = some a) (v1 : f.2.1 ≤ v) (v2 : v ≤ f.2.2) (v3 : a = f.2.1 → f.2.1 < v) (v4 : a ≠ f.2.1 → v < f.2.2) : Wv fs e O k j (t + 1) (B.set i v) := by
  have hi := o.lt ht
  refine ⟨⟨by rw [List.length_set]; exact w.bx.len, fun i' f' a' h1 h2 => ?_⟩, fun u i' hu f' a' b' h1 h2 h3 => ?_⟩
  · by_cases h : i = i'
    · subst h
      rw [List.getElem?_set_self (by rw [w.bx.len]; exact hi)] at h2
      cases h2
      rw [hf] at h1
      cases h1
      exact ⟨v1, v2⟩
    · rw [List.getElem?_set_ne h] at h2
      exact w.bx.inn i' f' a' h1 h2
  · by_cases h : i = i'
    · subst h
      have := o.inj hu ht
      subst this
      rw [List.getElem?_set_self (by rw [w.bx.len]; exact hi)] at h3
      cases h3
      rw [hf] at h1
      cases h1
      rw [ha] at h2
      cases h2
      rw [decide_eq_false (by omega), if_neg (by decide)]
      exact ⟨v3, v4⟩
    · rw [List.getElem?_set_ne h] at h3
      have hut : u ≠ t := fun h' => h (by rw [h', ht] at hu; exact Option.some.inj hu)
      have := w.at_ u i' hu f' a' b' h1 h2 h3
      rwa [show decide (t + 1 ≤ u ∨ u = k ∨ u = j) = decide (t ≤ u ∨ u = k ∨ u = j) from decide_eq_decide.mpr (by omega)]
structure Xv (fs : List Fld) (e : Sheet) (O : List Nat) (t : Nat) (B : Sheet) : Prop where
  bx : Box fs B
  at_ : ∀ (u i : Nat), O[u]? = some i → 1 ≤ u → u < 1 + t → Ag fs e B i false
theorem Xv.set {fs : List Fld} {e B : Sheet} {O : List Nat} {t i : Nat} {v : Int} {f : Fld} {a : Int} (o : Or fs.length O) (w : Xv fs e O t B) (ht : O[1 + t]? = some i) (hf : fs[i]? = some f) (ha : e[i]? = some a) (v1 : f.2.1 ≤ v) (v2 : v ≤ f.2.2) (v3 : a = f.2.1 → f.2.1 < v) (v4 : a ≠ f.2.1 → v < f.2.2) : Xv fs e O (t + 1) (B.set i v) := by
  have hi := o.lt ht
  refine ⟨⟨by rw [List.length_set]; exact w.bx.len, fun i' f' a' h1 h2 => ?_⟩, fun u i' hu u1 u2 f' a' b' h1 h2 h3 => ?_⟩
  · by_cases h : i = i'
    · subst h
      rw [List.getElem?_set_self (by rw [w.bx.len]; exact hi)] at h2
      cases h2
      rw [hf] at h1
      cases h1
      exact ⟨v1, v2⟩
    · rw [List.getElem?_set_ne h] at h2
      exact w.bx.inn i' f' a' h1 h2
  · by_cases h : i = i'
    · subst h
      rw [List.getElem?_set_self (by rw [w.bx.len]; exact hi)] at h3
      cases h3
      rw [hf] at h1
      cases h1
      rw [ha] at h2
      cases h2
      rw [if_neg (by decide)]
      exact ⟨v3, v4⟩
    · rw [List.getElem?_set_ne h] at h3
      have hut : u ≠ 1 + t := fun h' => h (by rw [h', ht] at hu; exact Option.some.inj hu)
      exact w.at_ u i' hu u1 (by omega) f' a' b' h1 h2 h3
theorem cut_mid {α : Type} {xs : List α} {i j : Nat} (h : i ≤ xs.length) (h2 : j ≤ xs.length) : slP.cutV' xs (some (i : Int)) (some (j : Int)) = (xs.drop i).take (j - i) := by
  unfold slP.cutV'
  rw [HT.sIx_nat, HT.sIx_nat, Nat.min_eq_left h, Nat.min_eq_left h2]

/-! k80: the web. -/
def P_web (ts : List T) (K : T → Prop) : Prop := ∃ cs, ts = [cellsT cs] ∧ 0 < cs.length ∧ K (.bl true)
theorem c_web {cs : List Int} {K : T → Prop} (h : 0 < cs.length) (k : K (.bl true)) : P_web [cellsT cs] K := ⟨cs, rfl, h, k⟩
/-- the items of an enumeration over fields -/
theorem enum_fs {fs : List Fld} {x : T} (h : x ∈ (fs.map fldT).zipIdx.map fun q => T.tup [.int (q.2 : Nat), q.1]) : ∃ (i : Nat) (f : Fld), fs[i]? = some f ∧ x = .tup [.int (i : Nat), fldT f] := by
  obtain ⟨p, hp, rfl⟩ := List.mem_map.mp h
  have hp := List.mk_mem_zipIdx_iff_getElem?.mp (show (p.1, p.2) ∈ _ from hp)
  rw [List.getElem?_map] at hp
  obtain ⟨f, hf, hf2⟩ := Option.map_eq_some_iff.mp hp
  exact ⟨p.2, f, hf, by rw [← hf2]⟩
/-- what a comprehension over an enumeration of fields gives: an int by field -/
theorem enum_ints {fs : List Fld} {R : Fld → Int → Prop} {ys : List T} (h : Rel2 (fun x y => ∃ (i : Nat) (f : Fld) (a : Int), x = .tup [.int (i : Nat), fldT f] ∧ fs[i]? = some f ∧ y = .int a ∧ R f a) ((fs.map fldT).zipIdx.map fun q => T.tup [.int (q.2 : Nat), q.1]) ys) :
    ∃ e : List Int, ys = e.map T.int ∧ e.length = fs.length ∧ ∀ (i : Nat) f a, fs[i]? = some f → e[i]? = some a → R f a := by
  obtain ⟨e, rfl, hel, he⟩ := ints_of h fun x y ⟨_, _, n, _, _, h, _⟩ => ⟨n, h⟩
  simp only [List.length_map, List.length_zipIdx] at hel
  refine ⟨e, rfl, hel, fun i f a hf ha => ?_⟩
  obtain ⟨i', f', a', e1, e2, e3, e4⟩ := he i (.tup [.int (i : Nat), fldT f]) a (by rw [List.getElem?_map, List.getElem?_zipIdx, List.getElem?_map, hf]; simp) ha
  injection e3 with e3
  subst e3
  injection e1 with e1
  injection e1 with e1 e5
  injection e1 with e1
  obtain rfl : i = i' := by omega
  rw [hf] at e2
  cases e2
  exact e4
theorem ne_nats {O : List Nat} {n t k i a : Nat} (o : Or n O) (h1 : O[t]? = some i) (h2 : O[k]? = some a) : ((i : Int) = (a : Int)) ↔ t = k := by
  constructor
  · intro h
    obtain rfl : i = a := by omega
    exact o.inj h1 h2
  · rintro rfl
    rw [h1] at h2
    cases h2
    rfl
section
variable {Φ : Nat → Spec}
theorem v_web (h22 : Φ 22 = spF P_pick) (h23 : Φ 23 = spF P_law_fields) (h26 : Φ 26 = spF P_between) (h27 : Φ 27 = spF P_law_sayings) (h29 : Φ 29 = spF P_law_unseen) (h32 : Φ 32 = spF P_law_both) : VC Φ [false] P_web il__law_web 18 := by
  rintro ts Q - - ⟨cs, rfl, hcs, q⟩
  show wpSs Φ il__law_web _ [some (cellsT cs), none, none, none, none, none, none, none, none, none, none, none, none, none, none, none, none, none]
  unfold il__law_web
  have sl : sizeLine = 16777216 := rfl
  walk_at "pl_vs"
  refine c_pick hcs (by decide) fun c1 c10 c11 => ?_
  walk_at "pl_vs"
  refine c_pick hcs (by decide) fun c2 c20 c21 => ?_
  walk_at "pl_vs"
  refine ⟨by omega, by omega, ?_⟩
  refine k_cap (show List.length _ ≤ sizeLine by rw [List.length_map, List.length_range]; omega) ?_
  refine k_lcR (fun _ y => ∃ n : Int, y = .int n ∧ 2 ≤ n ∧ n ≤ 20) (fun x hx Kk kk => ?_) fun ys hys => ?_
  · obtain ⟨j, hj, rfl⟩ := List.mem_map.mp hx
    unfold kTurn
    simp only [wipeE, List.set_cons_zero, List.set_cons_succ]
    walk_at "pl_vs"
    refine c_pick hcs (by decide) fun r r0 r1 => ?_
    walk_at "pl_vs"
    exact kk _ _ ⟨_, rfl, by omega, by omega⟩ rfl
  obtain ⟨sz, rfl, hszl, hsz⟩ := ints_of hys fun x y ⟨n, h, _⟩ => ⟨n, h⟩
  clear hys
  rw [List.length_map, List.length_range] at hszl
  have hsz : ∀ n ∈ sz, 2 ≤ n ∧ n ≤ 20 := fun n hn => by
    obtain ⟨i, hi⟩ := List.mem_iff_getElem?.mp hn
    have hl := (List.getElem?_eq_some_iff.mp hi).1
    obtain ⟨n', e, h⟩ := hsz i (.int i) n (by rw [List.getElem?_map, List.getElem?_range (by omega)]; rfl) hi
    injection e with e
    subst e
    exact h
  have iz := isF_ints sz
  simp only [backE, keepF, List.getD_cons_zero, List.getD_cons_succ, List.set_cons_zero, List.set_cons_succ]
  walk_at "pl_vs"
  rw [show fz (.lst true (sz.map T.int)) = .lst false (sz.map T.int) from congrArg (T.lst false) (fzs_of_isF _ iz)]
  refine c_law_fields hcs (by omega) fun fs hfs => ?_
  have hfn : ∀ (i : Nat) f, fs[i]? = some f → f.2.1 < f.2.2 ∧ f.2.2 ≤ f.2.1 + 20 ∧ -1000000 ≤ f.2.1 ∧ f.2.1 ≤ 1000000 := fun i f hf => by
    have hi := (List.getElem?_eq_some_iff.mp hf).1
    rw [hfs.1] at hi
    have e := List.getElem?_eq_getElem hi
    have := hsz _ (List.getElem_mem hi)
    have := hfs.2 i f _ hf e
    omega
  obtain ⟨m, hm, hmc⟩ : ∃ m : Nat, (m = 8 ∨ m = 9) ∧ 8 + c1 = (m : Int) := ⟨(8 + c1).toNat, by omega, by omega⟩
  obtain ⟨n, hn, hnc⟩ : ∃ n : Nat, (m ≤ n ∧ n ≤ 12) ∧ 8 + c1 + c2 = (n : Int) := ⟨(8 + c1 + c2).toNat, by omega, by omega⟩
  have hfl : fs.length = n := by rw [hfs.1, hszl]; omega
  have ff : isFs (fs.map fldT) = true := isFs_map fun _ => rfl
  rw [hnc, hmc]
  walk_at "pl_vs"
  refine ⟨by omega, by omega, ?_⟩
  rw [Int.toNat_natCast]
  refine k_cap (show List.length _ ≤ sizeLine by rw [List.length_map, List.length_range]; omega) ?_
  refine k_lcR (fun x y => ∃ (j : Nat) (r : Int), x = .int (j : Nat) ∧ y = .tup [.int r, .int (j : Nat)]) (fun x hx Kk kk => ?_) fun Y hY => ?_
  · obtain ⟨j, hj, rfl⟩ := List.mem_map.mp hx
    unfold kTurn
    simp only [wipeE, List.set_cons_zero, List.set_cons_succ]
    walk_at "pl_vs"
    refine c_pick hcs (by decide) fun r r0 r1 => ?_
    walk_at "pl_vs"
    exact kk _ _ ⟨j, r, rfl, rfl⟩ rfl
  obtain ⟨iY, sY, iS, mS, O, eO, pO⟩ := order_of hY
  have o : Or fs.length O := ⟨by rw [hfl]; exact pO⟩
  clear hY
  simp only [backE, keepF, List.getD_cons_zero, List.getD_cons_succ, List.set_cons_zero, List.set_cons_succ]
  refine b_sortL iY sY ?_
  walk_at "pl_vs"
  refine k_lcM snd1 (fun x hx Kk kk => ?_) ?_
  · obtain ⟨r, j, rfl⟩ := mS x hx
    unfold kTurn
    simp only [wipeE, List.set_cons_zero, List.set_cons_succ]
    walk_at "pl_vs"
    exact kk _ rfl
  rw [eO]
  simp only [backE, keepF, List.getD_cons_zero, List.getD_cons_succ, List.set_cons_zero, List.set_cons_succ]
  have iO : isFs (O.map fun (k : Nat) => T.int k) = true := isFs_map fun _ => rfl
  have xO : ∀ (t i : Nat), O[t]? = some i → idxT (.lst true (O.map fun (k : Nat) => T.int k)) (.int (t : Nat)) = some (.int (i : Nat)) := fun t i h => by
    show L2.atI (O.map _) _ = _
    rw [atI_cast, List.getElem?_map, h]
    rfl
  clear eO iY sY iS mS
  walk_at "pl_vs"
  refine k_lcR (fun x y => ∃ (i : Nat) (f : Fld) (a : Int), x = .tup [.int (i : Nat), fldT f] ∧ fs[i]? = some f ∧ y = .int a ∧ (a = f.2.1 ∨ a = f.2.2)) (fun x hx Kk kk => ?_) fun ys hys => ?_
  · obtain ⟨i, f, hf, rfl⟩ := enum_fs hx
    unfold kTurn
    simp only [wipeE, List.set_cons_zero, List.set_cons_succ]
    walk_at "pl_vs"
    refine c_pick hcs (by decide) fun r r0 r1 => ?_
    obtain ⟨a, ha, i1⟩ : ∃ a : Int, (a = f.2.1 ∨ a = f.2.2) ∧ idxT (fldT f) (.int (1 + r)) = some (.int a) := by
      have : r = 0 ∨ r = 1 := by omega
      rcases this with rfl | rfl
      · exact ⟨_, .inl rfl, rfl⟩
      · exact ⟨_, .inr rfl, rfl⟩
    walk_at "pl_vs"
    exact kk _ _ ⟨i, f, a, rfl, hf, rfl, ha⟩ rfl
  obtain ⟨e, rfl, hel, hends⟩ := enum_ints hys
  clear hys
  have E2 : Ends2 fs e := ⟨⟨hel, fun i f a hf ha => by
    have := hfn i f hf
    have := hends i f a hf ha
    omega⟩, fun i f a hf ha => ⟨(hfn i f hf).1, hends i f a hf ha⟩⟩
  have ie := isF_ints e
  have xe : ∀ (i : Nat) (a : Int), e[i]? = some a → idxT (.lst true (e.map T.int)) (.int (i : Nat)) = some (.int a) := fun i a h => atI_map (by rw [atI_cast]; exact h)
  have xf : ∀ (i : Nat) f, fs[i]? = some f → idxT (.tup (fs.map fldT)) (.int (i : Nat)) = some (fldT f) := fun i f h => atI_map (by rw [atI_cast]; exact h)
  simp only [backE, keepF, List.getD_cons_zero, List.getD_cons_succ, List.set_cons_zero, List.set_cons_succ]
  walk_at "pl_vs"
  refine ⟨by omega, by omega, ?_⟩
  rw [Int.toNat_natCast]
  refine k_for (fun k Γ => ∃ (W : List Sheet) (o4 : Option T), All2 (IsQ fs e O m) (pairsTo k) W ∧ W.length ≤ 9 * k ∧ ((k = 0 ∧ o4 = none) ∨ ∃ v : Int, o4 = some (.int v)) ∧ Γ = [some (cellsT cs), some (.int (m : Nat)), some (.int (n : Nat)), some (.tup (fs.map fldT)), o4, some (.lst true (O.map fun (k : Nat) => T.int k)), none, some (.lst true (e.map T.int)), none, some (.lst true (W.map sT)), none, none, none, none, none, none, none, none]) ⟨[], none, ⟨rfl, fun i x y h => by simp [pairsTo] at h⟩, by simp, .inl ⟨rfl, rfl⟩, rfl⟩ ?_ ?_
  · rintro k x Γ hx ⟨W, o4, hW, hWl, -, rfl⟩ again ag
    obtain ⟨hk, rfl⟩ := rng0_get hx
    have eOk : O[k]? = some (O[k]'(by rw [o.len]; omega)) := List.getElem?_eq_getElem _
    generalize O[k]'_ = ok at eOk
    have xOk := xO _ _ eOk
    walk_at "pl_vs"
    refine ⟨by omega, by omega, ?_⟩
    rw [Int.toNat_natCast]
    refine k_for (fun j Γ => ∃ W : List Sheet, All2 (IsQ fs e O m) (pairsTo k ++ (List.range j).map fun j => (k, j)) W ∧ W.length ≤ 9 * k + j ∧ Γ = [some (cellsT cs), some (.int (m : Nat)), some (.int (n : Nat)), some (.tup (fs.map fldT)), some (.int (k : Nat)), some (.lst true (O.map fun (k : Nat) => T.int k)), none, some (.lst true (e.map T.int)), none, some (.lst true (W.map sT)), none, none, none, none, none, none, none, none]) ⟨W, by simpa using hW, by omega, rfl⟩ ?_ ?_
    · clear hx hW hWl W
      rintro j x Γ hx ⟨W, hW, hWl, rfl⟩ again2 ag2
      obtain ⟨hj, rfl⟩ := rng0_get hx
      have eOj : O[j]? = some (O[j]'(by rw [o.len]; omega)) := List.getElem?_eq_getElem _
      generalize O[j]'_ = oj at eOj
      have xOj := xO _ _ eOj
      walk_at "pl_vs"
      rw [cut_to (by rw [List.length_map, o.len]; omega), ← List.map_take]
      refine k_holdT rfl (isFs_map fun _ => rfl) ?_
      refine k_for (fun t Γ => ∃ B : Sheet, Wv fs e O k j t B ∧ Γ = [some (cellsT cs), some (.int (m : Nat)), some (.int (n : Nat)), some (.tup (fs.map fldT)), some (.int (k : Nat)), some (.lst true (O.map fun (k : Nat) => T.int k)), none, some (.lst true (e.map T.int)), none, some (.lst true (W.map sT)), some (.int (j : Nat)), some (.lst true (B.map T.int)), none, none, none, none, none, none]) ⟨e, Wv.start E2.bx, rfl⟩ ?_ ?_
      · clear hx
        rintro t x Γ hx ⟨B, hB, rfl⟩ again3 ag3
        rw [List.getElem?_map] at hx
        obtain ⟨i, hi, rfl⟩ := Option.map_eq_some_iff.mp hx
        have htm : t < m := by
          have := (List.getElem?_eq_some_iff.mp hi).1
          rw [List.length_take] at this
          omega
        rw [List.getElem?_take_of_lt htm] at hi
        have hil := o.lt hi
        have hf := List.getElem?_eq_getElem hil
        have ha : e[i]? = some (e[i]'(by omega)) := List.getElem?_eq_getElem _
        generalize fs[i] = f at hf
        generalize e[i]'_ = a at ha
        have x1 := xf i f hf
        have x2 := xe i a ha
        have nk := ne_nats o hi eOk
        have nj := ne_nats o hi eOj
        walk_at "pl_vs"
        · rename_i h1 h2
          refine c_between hcs (hfn i f hf).1 fun b b0 b1 b2 b3 => ?_
          walk_at "pl_vs"
          refine ⟨⟨_, rfl⟩, ?_⟩
          walk_at "pl_vs"
          refine k_setL rfl rfl (ixN_cast (by rw [List.length_map, hB.bx.len]; exact hil)) ?_
          simp only [List.set_cons_zero, List.set_cons_succ]
          rw [show (B.map T.int).set i (.int b) = (B.set i b).map T.int by simp only [List.map_set]]
          walk_at "pl_vs"
          exact ag3 _ ⟨_, hB.set o (fun h => h1 (nk.mpr h)) (fun h => h2 (nj.mpr h)) hi hf ha b0 b1 b2 b3, rfl⟩
        · rename_i h1 h2
          exact ag3 _ ⟨B, hB.skip (.inr (nj.mp h2)), rfl⟩
        · rename_i h1
          exact ag3 _ ⟨B, hB.skip (.inl (nk.mp h1)), rfl⟩
      · clear hx
        rintro Γ ⟨B, hB, rfl⟩
        rw [List.length_map, List.length_take, o.len, Nat.min_eq_left (by omega)] at hB
        have iB := isF_ints B
        have hWl2 : (W.map sT).length < sizeLine := by rw [List.length_map]; omega
        walk_at "pl_vs"
        refine ag2 _ ⟨W ++ [B], ?_, by simp; omega, ?_⟩
        · rw [List.range_succ, List.map_append, ← List.append_assoc]
          exact hW.app (.one ⟨hB.bx, hB.at_⟩)
        · rw [List.map_append]
          rfl
    · clear hx hW hWl W
      rintro Γ ⟨W, hW, hWl, rfl⟩
      rw [List.length_map, List.length_range] at hW hWl
      rw [← pairsTo_succ] at hW
      walk_at "pl_vs"
      exact ag _ ⟨W, _, hW, by omega, .inr ⟨_, rfl⟩, rfl⟩
  · rintro Γ ⟨W, o4, hW, hWl, ho4, rfl⟩
    rw [List.length_map, List.length_range] at hW hWl ho4
    obtain ⟨v4, rfl⟩ : ∃ v : Int, o4 = some (.int v) := by
      rcases ho4 with ⟨h, _⟩ | h
      · omega
      · exact h
    have hWp : 28 ≤ W.length ∧ W.length ≤ 36 := by
      rw [hW.len]
      rcases hm with rfl | rfl
      · exact ⟨(pairs_all 0).2.1, (pairs_all 0).1⟩
      · exact ⟨(pairs_all 1).2.1, (pairs_all 1).1⟩
    walk_at "pl_vs"
    rw [List.length_map]
    refine c_pick hcs (by omega) fun lp lp0 lp1 => ?_
    walk_at "pl_vs"
    refine ⟨by omega, by omega, ?_⟩
    refine k_for (fun l Γ => ∃ X : List Sheet, X.length = l ∧ (∀ x ∈ X, IsX fs e O m x) ∧ Γ = [some (cellsT cs), some (.int (m : Nat)), some (.int (n : Nat)), some (.tup (fs.map fldT)), some (.int v4), some (.lst true (O.map fun (k : Nat) => T.int k)), none, some (.lst true (e.map T.int)), none, some (.lst true ((W ++ X).map sT)), none, none, none, some (.int (W.length : Nat)), none, none, none, none]) ⟨[], rfl, by simp, by simp⟩ ?_ ?_
    · rintro l x Γ hx ⟨X, hXl, hX, rfl⟩ again ag
      obtain ⟨hl, rfl⟩ := rng0_get hx
      walk_at "pl_vs"
      refine k_lcR (fun x y => ∃ (i : Nat) (f : Fld) (a : Int), x = .tup [.int (i : Nat), fldT f] ∧ fs[i]? = some f ∧ y = .int a ∧ (f.2.1 ≤ a ∧ a ≤ f.2.2)) (fun x hx Kk kk => ?_) fun ys hys => ?_
      · obtain ⟨i, f, hf, rfl⟩ := enum_fs hx
        have := hfn i f hf
        have y1 : idxT (fldT f) (.int 1) = some (.int f.2.1) := rfl
        have y2 : idxT (fldT f) (.int 2) = some (.int f.2.2) := rfl
        unfold kTurn
        simp only [wipeE, List.set_cons_zero, List.set_cons_succ]
        walk_at "pl_vs"
        refine c_pick hcs (by omega) fun r r0 r1 => ?_
        walk_at "pl_vs"
        exact kk _ _ ⟨i, f, _, rfl, hf, rfl, by omega, by omega⟩ rfl
      obtain ⟨B0, rfl, hBl0, hB0⟩ := enum_ints hys
      clear hys
      simp only [backE, keepF, List.getD_cons_zero, List.getD_cons_succ, List.set_cons_zero, List.set_cons_succ]
      walk_at "pl_vs"
      rw [show (some (1 : Int)) = some ((1 : Nat) : Int) from rfl, cut_mid (by rw [List.length_map, o.len]; omega) (by rw [List.length_map, o.len]; omega), ← List.map_drop, ← List.map_take]
      refine k_holdT rfl (isFs_map fun _ => rfl) ?_
      refine k_for (fun t Γ => ∃ B : Sheet, Xv fs e O t B ∧ Γ = [some (cellsT cs), some (.int (m : Nat)), some (.int (n : Nat)), some (.tup (fs.map fldT)), some (.int v4), some (.lst true (O.map fun (k : Nat) => T.int k)), none, some (.lst true (e.map T.int)), none, some (.lst true ((W ++ X).map sT)), none, some (.lst true (B.map T.int)), none, some (.int (W.length : Nat)), some (.int (l : Nat)), none, none, none]) ⟨B0, ⟨⟨hBl0, hB0⟩, fun u i _ h1 h2 => by omega⟩, rfl⟩ ?_ ?_
      · clear hx
        rintro t x Γ hx ⟨B, hB, rfl⟩ again3 ag3
        rw [List.getElem?_map] at hx
        obtain ⟨i, hi, rfl⟩ := Option.map_eq_some_iff.mp hx
        have htm : t < m - 1 := by
          have := (List.getElem?_eq_some_iff.mp hi).1
          rw [List.length_take] at this
          omega
        rw [List.getElem?_take_of_lt htm, List.getElem?_drop] at hi
        have hil := o.lt hi
        have hf := List.getElem?_eq_getElem hil
        have ha : e[i]? = some (e[i]'(by omega)) := List.getElem?_eq_getElem _
        generalize fs[i] = f at hf
        generalize e[i]'_ = a at ha
        have x1 := xf i f hf
        have x2 := xe i a ha
        walk_at "pl_vs"
        refine c_between hcs (hfn i f hf).1 fun b b0 b1 b2 b3 => ?_
        walk_at "pl_vs"
        refine ⟨⟨_, rfl⟩, ?_⟩
        walk_at "pl_vs"
        refine k_setL rfl rfl (ixN_cast (by rw [List.length_map, hB.bx.len]; exact hil)) ?_
        simp only [List.set_cons_zero, List.set_cons_succ]
        rw [show (B.map T.int).set i (.int b) = (B.set i b).map T.int by simp only [List.map_set]]
        walk_at "pl_vs"
        exact ag3 _ ⟨_, hB.set o hi hf ha b0 b1 b2 b3, rfl⟩
      · clear hx
        rintro Γ ⟨B, hB, rfl⟩
        rw [List.length_map, List.length_take, List.length_drop, o.len, Nat.min_eq_left (by omega)] at hB
        have iB := isF_ints B
        have hWl2 : ((W ++ X).map sT).length < sizeLine := by rw [List.length_map, List.length_append]; omega
        walk_at "pl_vs"
        refine ag _ ⟨X ++ [B], by simp [hXl], fun x hx => ?_, ?_⟩
        · rcases List.mem_append.mp hx with h | h
          · exact hX x h
          · simp only [List.mem_singleton] at h
            subst h
            exact ⟨hB.bx, fun t i ht h1 h2 => hB.at_ t i ht h1 (by omega)⟩
        · rw [← List.append_assoc, List.map_append (l₁ := W ++ X)]
          rfl
    · rintro Γ ⟨X, hXl, hX, rfl⟩
      rw [List.length_map, List.length_range] at hXl
      have iW := isFs_sT (W ++ X)
      have hWXl : ((W ++ X).map sT).length = W.length + X.length := by rw [List.length_map, List.length_append]
      walk_at "pl_vs"
      refine c_pick hcs (by omega) fun g g0 g1 => ?_
      obtain ⟨g, rfl⟩ : ∃ g' : Nat, g = (g' : Int) := ⟨g.toNat, by omega⟩
      have hg : g < W.length := by omega
      walk_at "pl_vs"
      rw [cut_to (by omega), show ((g : Nat) : Int) + 1 = ((g + 1 : Nat) : Int) by push_cast; rfl, cut_from (by omega), ← List.map_drop, ← List.map_take]
      have eS : (W ++ X).take g ++ (W ++ X).drop (g + 1) = (W.take g ++ W.drop (g + 1)) ++ X := by
        rw [List.take_append_of_le_length (by omega), List.drop_append_of_le_length (by omega), List.append_assoc]
      refine o_addL (isFs_sT _) (isFs_sT _) (by simp only [List.length_map, List.length_drop, List.length_take, List.length_append]; omega) ?_
      rw [← List.map_append, eS]
      have hWc : All2 (IsQ fs e O m) (cutP m g) (W.take g ++ W.drop (g + 1)) := (hW.take g).app (hW.drop (g + 1))
      have hlS : ((W.take g ++ W.drop (g + 1)) ++ X).length + 1 = W.length + X.length := by simp only [List.length_append, List.length_drop, List.length_take]; omega
      have hone := web_one E2 o hm (by omega) (by rw [← hW.len]; exact hg) hWc hX
      have hbW : ∀ x ∈ W, Box fs x := fun x hx => by
        obtain ⟨i, hi⟩ := List.mem_iff_getElem?.mp hx
        have hil := (List.getElem?_eq_some_iff.mp hi).1
        rw [hW.len] at hil
        exact (hW.at_ i _ x (List.getElem?_eq_getElem hil) hi).bx
      have hbWX : ∀ x ∈ W ++ X, Box fs x := fun x hx => by
        rcases List.mem_append.mp hx with h | h
        · exact hbW x h
        · exact (hX x h).bx
      have hbS : ∀ x ∈ (W.take g ++ W.drop (g + 1)) ++ X, Box fs x := fun x hx => by
        rcases List.mem_append.mp hx with h | h
        · rcases List.mem_append.mp h with h | h
          · exact hbW x (List.mem_of_mem_take h)
          · exact hbW x (List.mem_of_mem_drop h)
        · exact (hX x h).bx
      clear eS
      generalize hS : (W.take g ++ W.drop (g + 1)) ++ X = S at *
      have iS := isFs_sT S
      have hSl : (S.map sT).length = S.length := List.length_map _
      refine k_bind rfl ?_
      refine s_cons ?_
      refine s_frz rfl ?_
      simp only [List.set_cons_zero, List.set_cons_succ]
      rw [show fz (.lst true (S.map sT)) = .lst false (S.map sT) from congrArg (T.lst false) (fzs_of_isF _ iS)]
      walk_at "pl_vs"
      refine c_pick hcs (by omega) fun t t0 t1 => ?_
      obtain ⟨t, rfl⟩ : ∃ t' : Nat, t = (t' : Int) := ⟨t.toNat, by omega⟩
      have iA := isFs_yT (allSay fs e)
      walk_at "pl_vs"
      refine c_law_sayings hel (by omega) ?_
      walk_at "pl_vs"
      rw [show fz (.lst true ((allSay fs e).map yT)) = .lst false ((allSay fs e).map yT) from congrArg (T.lst false) (fzs_of_isF _ iA)]
      refine c_law_unseen (n := fs.length) (.inr rfl) (by omega) ?_ (fun x hx => (hbS x hx).len) (fun y hy => allSay_Sy hy) ?_
      · have := allSay_len fs e
        omega
      walk_at "pl_vs"
      · rename_i h
        rw [List.length_map, hone] at h
        exact absurd rfl h
      · rw [cut_to (by omega), cut_from (by omega), ← List.map_drop, ← List.map_take]
        refine o_addL (isFs_sT _) (isFs_sT _) (by simp only [List.length_map, List.length_drop, List.length_take, List.length_append]; omega) ?_
        rw [← List.map_append]
        refine b_tupL (isFs_sT _) ?_
        walk_at "pl_vs"
        rw [cut_to (by omega), cut_from (by omega), ← List.map_drop, ← List.map_take]
        refine o_addL (isFs_sT _) (isFs_sT _) (by simp only [List.length_map, List.length_drop, List.length_take]; omega) ?_
        rw [← List.map_append]
        refine b_tupL (isFs_sT _) ?_
        walk_at "pl_vs"
        have mem1 : ∀ (L : List Sheet) (t : Nat) x, x ∈ L.drop t ++ L.take t ↔ x ∈ L := fun L t x => by
          rw [List.mem_append]
          constructor
          · rintro (h | h)
            · exact List.mem_of_mem_drop h
            · exact List.mem_of_mem_take h
          · intro h
            rw [← List.take_append_drop t L] at h
            exact (List.mem_append.mp h).symm
        refine c_law_both ⟨by omega, E2.bx, fun x hx => hbWX x ((mem1 _ _ _).mp hx), fun h => ?_, by simp only [List.length_drop, List.length_take, List.length_append]; omega⟩ ⟨by omega, E2.bx, fun x hx => hbS x ((mem1 _ _ _).mp hx), fun h => ?_, by simp only [List.length_drop, List.length_take, List.length_append]; omega⟩ (web_all E2 o hm hW fun x hx => (mem1 _ _ _).mpr (List.mem_append_left _ hx)) ?_
        · have := congrArg List.length h
          simp only [List.length_drop, List.length_take, List.length_append, List.length_nil] at this
          omega
        · have := congrArg List.length h
          simp only [List.length_drop, List.length_take, List.length_append, List.length_nil] at this
          omega
        walk_at "pl_vs"
        exact q
end

/-! k80: the groups; the law. -/
def P_law (ts : List T) (K : T → Prop) : Prop := ∃ ns, ts = [.scr ns] ∧ K (.bl true)
/-- a sheet that agrees at two groups -/
structure IsG (fs : List Fld) (e : Sheet) (O : List Nat) (p : Nat × Nat) (w : Sheet) : Prop where
  bx : Box fs w
  at_ : ∀ (u i : Nat), (u / 3 = p.1 ∨ u / 3 = p.2) → O[u]? = some i → w[i]? = e[i]?
theorem groups_ok : ∀ g h : Fin 4, (pairsTo 4).any (fun p => (decide (g.val = p.1) || decide (g.val = p.2)) && (decide (h.val = p.1) || decide (h.val = p.2))) = true := by decide +kernel
theorem has_agree {e w : Sheet} {y : Say} {i : Nat} (h : y.1 = (i : Int)) (a : w[i]? = e[i]?) : has y w = has y e := by
  unfold has
  rw [h, atI_cast, atI_cast, a]
theorem groups_all {fs : List Fld} {e : Sheet} {O : List Nat} {Wb W : List Sheet} (o : Or fs.length O) (h12 : fs.length = 12) (g : All2 (IsG fs e O) (pairsTo 4) Wb) (sub : ∀ x ∈ Wb, x ∈ W) : AllSeen fs W e := by
  intro y hy z hz
  have sy := allSay_Sy hy
  have sz := allSay_Sy hz
  have y0 := sy.lo
  have y1 := sy.hi
  have z0 := sz.lo
  have z1 := sz.hi
  obtain ⟨t, ht, et⟩ := o.ex (i := y.1.toNat) (by omega)
  obtain ⟨u, hu, eu⟩ := o.ex (i := z.1.toNat) (by omega)
  have := groups_ok ⟨t / 3, by omega⟩ ⟨u / 3, by omega⟩
  rw [List.any_eq_true] at this
  obtain ⟨p, hp, hb⟩ := this
  simp only [Bool.and_eq_true, Bool.or_eq_true, decide_eq_true_eq] at hb
  obtain ⟨x, hx⟩ := List.mem_iff_getElem?.mp hp
  have hl := (List.getElem?_eq_some_iff.mp hx).1
  rw [← g.len] at hl
  have hw := List.getElem?_eq_getElem hl
  have q := g.at_ x _ _ hx hw
  refine seen_some.mpr ⟨_, sub _ (List.mem_of_getElem? hw), ?_, ?_⟩
  · rw [has_agree (i := y.1.toNat) (by omega) (q.at_ t _ hb.1 et)]
    exact has_own hy
  · rw [has_agree (i := z.1.toNat) (by omega) (q.at_ u _ hb.2 eu)]
    exact has_own hz
theorem box_set {fs : List Fld} {B : Sheet} {i : Nat} {v : Int} {f : Fld} (b : Box fs B) (hf : fs[i]? = some f) (v1 : f.2.1 ≤ v) (v2 : v ≤ f.2.2) : Box fs (B.set i v) := by
  have hi := (List.getElem?_eq_some_iff.mp hf).1
  refine ⟨by rw [List.length_set]; exact b.len, fun i' f' a' h1 h2 => ?_⟩
  by_cases h : i = i'
  · subst h
    rw [List.getElem?_set_self (by rw [b.len]; exact hi)] at h2
    cases h2
    rw [hf] at h1
    cases h1
    exact ⟨v1, v2⟩
  · rw [List.getElem?_set_ne h] at h2
    exact b.inn i' f' a' h1 h2
section
variable {Φ : Nat → Spec}
theorem v_groups (h22 : Φ 22 = spF P_pick) (h23 : Φ 23 = spF P_law_fields) (h31 : Φ 31 = spF P_hull_of) (h32 : Φ 32 = spF P_law_both) : VC Φ [false] P_web il__law_groups 16 := by
  rintro ts Q - - ⟨cs, rfl, hcs, q⟩
  show wpSs Φ il__law_groups _ [some (cellsT cs), none, none, none, none, none, none, none, none, none, none, none, none, none, none, none]
  unfold il__law_groups
  have sl : sizeLine = 16777216 := rfl
  walk_at "pl_vs"
  refine ⟨by decide, by decide, ?_⟩
  refine k_cap (show List.length _ ≤ sizeLine by rw [List.length_map, List.length_range]; decide) ?_
  refine k_lcR (fun _ y => ∃ n : Int, y = .int n ∧ 2 ≤ n ∧ n ≤ 20) (fun x hx Kk kk => ?_) fun ys hys => ?_
  · obtain ⟨j, hj, rfl⟩ := List.mem_map.mp hx
    unfold kTurn
    simp only [wipeE, List.set_cons_zero, List.set_cons_succ]
    walk_at "pl_vs"
    refine c_pick hcs (by decide) fun r r0 r1 => ?_
    walk_at "pl_vs"
    refine c_pick hcs (by decide) fun r' r0' r1' => ?_
    have hb : 0 ≤ r / 7 * r' ∧ r / 7 * r' ≤ 18 := by
      have : r / 7 = 0 ∨ r / 7 = 1 ∨ r / 7 = 2 := by omega
      rcases this with h | h | h <;> rw [h] <;> omega
    walk_at "pl_vs"
    exact kk _ _ ⟨_, rfl, by omega, by omega⟩ rfl
  obtain ⟨sz, rfl, hszl, hsz⟩ := ints_of hys fun x y ⟨n, h, _⟩ => ⟨n, h⟩
  clear hys
  rw [List.length_map, List.length_range] at hszl
  have hszl : sz.length = 12 := hszl
  have hsz : ∀ n ∈ sz, 2 ≤ n ∧ n ≤ 20 := fun n hn => by
    obtain ⟨i, hi⟩ := List.mem_iff_getElem?.mp hn
    have hl := (List.getElem?_eq_some_iff.mp hi).1
    obtain ⟨n', e, h⟩ := hsz i (.int i) n (by rw [List.getElem?_map, List.getElem?_range (show i < Int.toNat 12 by omega)]; rfl) hi
    injection e with e
    subst e
    exact h
  have iz := isF_ints sz
  simp only [backE, keepF, List.getD_cons_zero, List.getD_cons_succ, List.set_cons_zero, List.set_cons_succ]
  walk_at "pl_vs"
  rw [show fz (.lst true (sz.map T.int)) = .lst false (sz.map T.int) from congrArg (T.lst false) (fzs_of_isF _ iz)]
  refine c_law_fields hcs (by omega) fun fs hfs => ?_
  have hfn : ∀ (i : Nat) f, fs[i]? = some f → f.2.1 < f.2.2 ∧ f.2.2 ≤ f.2.1 + 20 ∧ -1000000 ≤ f.2.1 ∧ f.2.1 ≤ 1000000 := fun i f hf => by
    have hi := (List.getElem?_eq_some_iff.mp hf).1
    rw [hfs.1] at hi
    have e := List.getElem?_eq_getElem hi
    have := hsz _ (List.getElem_mem hi)
    have := hfs.2 i f _ hf e
    omega
  have hfl : fs.length = 12 := by rw [hfs.1, hszl]
  have ff : isFs (fs.map fldT) = true := isFs_map fun _ => rfl
  walk_at "pl_vs"
  refine ⟨by decide, by decide, ?_⟩
  refine k_cap (show List.length _ ≤ sizeLine by rw [List.length_map, List.length_range]; decide) ?_
  refine k_lcR (fun x y => ∃ (j : Nat) (r : Int), x = .int (j : Nat) ∧ y = .tup [.int r, .int (j : Nat)]) (fun x hx Kk kk => ?_) fun Y hY => ?_
  · obtain ⟨j, hj, rfl⟩ := List.mem_map.mp hx
    unfold kTurn
    simp only [wipeE, List.set_cons_zero, List.set_cons_succ]
    walk_at "pl_vs"
    refine c_pick hcs (by decide) fun r r0 r1 => ?_
    walk_at "pl_vs"
    exact kk _ _ ⟨j, r, rfl, rfl⟩ rfl
  obtain ⟨iY, sY, iS, mS, O, eO, pO⟩ := order_of hY
  have o : Or fs.length O := ⟨by rw [hfl]; exact pO⟩
  clear hY
  simp only [backE, keepF, List.getD_cons_zero, List.getD_cons_succ, List.set_cons_zero, List.set_cons_succ]
  refine b_sortL iY sY ?_
  walk_at "pl_vs"
  refine k_lcM snd1 (fun x hx Kk kk => ?_) ?_
  · obtain ⟨r, j, rfl⟩ := mS x hx
    unfold kTurn
    simp only [wipeE, List.set_cons_zero, List.set_cons_succ]
    walk_at "pl_vs"
    exact kk _ rfl
  rw [eO]
  simp only [backE, keepF, List.getD_cons_zero, List.getD_cons_succ, List.set_cons_zero, List.set_cons_succ]
  have iO : isFs (O.map fun (k : Nat) => T.int k) = true := isFs_map fun _ => rfl
  have xO : ∀ (t i : Nat), O[t]? = some i → idxT (.lst true (O.map fun (k : Nat) => T.int k)) (.int (t : Nat)) = some (.int (i : Nat)) := fun t i h => by
    show L2.atI (O.map _) _ = _
    rw [atI_cast, List.getElem?_map, h]
    rfl
  clear eO iY sY iS mS
  walk_at "pl_vs"
  refine k_lcR (fun x y => ∃ (i : Nat) (f : Fld) (a : Int), x = .tup [.int (i : Nat), fldT f] ∧ fs[i]? = some f ∧ y = .int a ∧ (f.2.1 ≤ a ∧ a ≤ f.2.2)) (fun x hx Kk kk => ?_) fun ys hys => ?_
  · obtain ⟨i, f, hf, rfl⟩ := enum_fs hx
    have := hfn i f hf
    have y1 : idxT (fldT f) (.int 1) = some (.int f.2.1) := rfl
    have y2 : idxT (fldT f) (.int 2) = some (.int f.2.2) := rfl
    unfold kTurn
    simp only [wipeE, List.set_cons_zero, List.set_cons_succ]
    walk_at "pl_vs"
    refine c_pick hcs (by omega) fun r r0 r1 => ?_
    walk_at "pl_vs"
    exact kk _ _ ⟨i, f, _, rfl, hf, rfl, by omega, by omega⟩ rfl
  obtain ⟨e, rfl, hel, hbe⟩ := enum_ints hys
  clear hys
  have be : Box fs e := ⟨hel, hbe⟩
  have ie := isF_ints e
  have xe : ∀ (i : Nat) (a : Int), e[i]? = some a → idxT (.lst true (e.map T.int)) (.int (i : Nat)) = some (.int a) := fun i a h => atI_map (by rw [atI_cast]; exact h)
  have xf : ∀ (i : Nat) f, fs[i]? = some f → idxT (.tup (fs.map fldT)) (.int (i : Nat)) = some (fldT f) := fun i f h => atI_map (by rw [atI_cast]; exact h)
  simp only [backE, keepF, List.getD_cons_zero, List.getD_cons_succ, List.set_cons_zero, List.set_cons_succ]
  walk_at "pl_vs"
  refine ⟨by decide, by decide, ?_⟩
  refine k_for (fun k Γ => ∃ W : List Sheet, All2 (IsG fs e O) (pairsTo k) W ∧ W.length ≤ 4 * k ∧ Γ = [some (cellsT cs), some (.tup (fs.map fldT)), none, some (.lst true (O.map fun (k : Nat) => T.int k)), none, some (.lst true (e.map T.int)), none, some (.lst true (W.map sT)), none, none, none, none, none, none, none, none]) ⟨[], ⟨rfl, fun i x y h => by simp [pairsTo] at h⟩, by simp, rfl⟩ ?_ ?_
  · rintro k x Γ hx ⟨W, hW, hWl, rfl⟩ again ag
    obtain ⟨hk, rfl⟩ := rng0_get hx
    have hk : k < 4 := hk
    walk_at "pl_vs"
    refine ⟨by omega, by omega, ?_⟩
    rw [Int.toNat_natCast]
    refine k_for (fun j Γ => ∃ W : List Sheet, All2 (IsG fs e O) (pairsTo k ++ (List.range j).map fun j => (k, j)) W ∧ W.length ≤ 4 * k + j ∧ Γ = [some (cellsT cs), some (.tup (fs.map fldT)), some (.int (k : Nat)), some (.lst true (O.map fun (k : Nat) => T.int k)), none, some (.lst true (e.map T.int)), none, some (.lst true (W.map sT)), none, none, none, none, none, none, none, none]) ⟨W, by simpa using hW, by omega, rfl⟩ ?_ ?_
    · clear hx hW hWl W
      rintro j x Γ hx ⟨W, hW, hWl, rfl⟩ again2 ag2
      obtain ⟨hj, rfl⟩ := rng0_get hx
      walk_at "pl_vs"
      refine k_lcR (fun x y => ∃ (i : Nat) (f : Fld) (a : Int), x = .tup [.int (i : Nat), fldT f] ∧ fs[i]? = some f ∧ y = .int a ∧ (f.2.1 ≤ a ∧ a ≤ f.2.2)) (fun x hx Kk kk => ?_) fun ys hys => ?_
      · obtain ⟨i, f, hf, rfl⟩ := enum_fs hx
        have := hfn i f hf
        have y1 : idxT (fldT f) (.int 1) = some (.int f.2.1) := rfl
        have y2 : idxT (fldT f) (.int 2) = some (.int f.2.2) := rfl
        unfold kTurn
        simp only [wipeE, List.set_cons_zero, List.set_cons_succ]
        walk_at "pl_vs"
        refine c_pick hcs (by omega) fun r r0 r1 => ?_
        walk_at "pl_vs"
        exact kk _ _ ⟨i, f, _, rfl, hf, rfl, by omega, by omega⟩ rfl
      obtain ⟨B0, rfl, hBl0, hB0⟩ := enum_ints hys
      clear hys
      simp only [backE, keepF, List.getD_cons_zero, List.getD_cons_succ, List.set_cons_zero, List.set_cons_succ]
      walk_at "pl_vs"
      refine ⟨_, _, rfl, rfl, ⟨by omega, by omega, by omega, by omega, by omega⟩, ?_⟩
      walk_at "pl_vs"
      refine ⟨_, _, rfl, rfl, ⟨by omega, by omega, by omega, by omega, by omega⟩, ?_⟩
      refine o_addL (isFs_map fun _ => rfl) (isFs_map fun _ => rfl) (by simp only [List.length_map, List.length_range]; omega) ?_
      generalize hL : (((List.range (3 * (k : Int) + 3 - 3 * (k : Int)).toNat).map fun (d : Nat) => T.int (3 * (k : Int) + d)) ++ ((List.range (3 * (j : Int) + 3 - 3 * (j : Int)).toNat).map fun (d : Nat) => T.int (3 * (j : Int) + d))) = L
      have hLm : ∀ x, x ∈ L ↔ ∃ u : Nat, x = .int (u : Nat) ∧ (u / 3 = k ∨ u / 3 = j) := fun x => by
        rw [← hL, List.mem_append, List.mem_map, List.mem_map]
        constructor
        · rintro (⟨d, hd, rfl⟩ | ⟨d, hd, rfl⟩)
          · rw [List.mem_range] at hd
            exact ⟨3 * k + d, by push_cast; rfl, by omega⟩
          · rw [List.mem_range] at hd
            exact ⟨3 * j + d, by push_cast; rfl, by omega⟩
        · rintro ⟨u, rfl, h | h⟩
          · exact .inl ⟨u % 3, by rw [List.mem_range]; omega, by congr 1; omega⟩
          · exact .inr ⟨u % 3, by rw [List.mem_range]; omega, by congr 1; omega⟩
      have iL : isFs L = true := by
        rw [isFs_all, List.all_eq_true]
        intro x hx
        obtain ⟨u, rfl, -⟩ := (hLm x).mp hx
        rfl
      clear hL
      refine k_holdT rfl iL ?_
      refine k_for (fun t Γ => ∃ B : Sheet, Box fs B ∧ (∀ u i : Nat, T.int (u : Nat) ∈ L.take t → O[u]? = some i → B[i]? = e[i]?) ∧ Γ = [some (cellsT cs), some (.tup (fs.map fldT)), some (.int (k : Nat)), some (.lst true (O.map fun (k : Nat) => T.int k)), none, some (.lst true (e.map T.int)), none, some (.lst true (W.map sT)), some (.int (j : Nat)), some (.lst true (B.map T.int)), none, none, none, none, none, none]) ⟨B0, ⟨hBl0, hB0⟩, by simp, rfl⟩ ?_ ?_
      · clear hx
        rintro t x Γ hx ⟨B, hB, hBe, rfl⟩ again3 ag3
        have tk : L.take (t + 1) = L.take t ++ [x] := by rw [List.take_add_one, hx]; rfl
        obtain ⟨u, rfl, hu⟩ := (hLm x).mp (List.mem_of_getElem? hx)
        have eu : O[u]? = some (O[u]'(by rw [o.len]; omega)) := List.getElem?_eq_getElem _
        generalize O[u]'_ = i at eu
        have hil := o.lt eu
        have ha : e[i]? = some (e[i]'(by omega)) := List.getElem?_eq_getElem _
        have hf := List.getElem?_eq_getElem hil
        generalize fs[i] = f at hf
        generalize e[i]'_ = a at ha
        have x1 := xO u i eu
        have x2 := xe i a ha
        walk_at "pl_vs"
        refine ⟨⟨_, rfl⟩, ?_⟩
        walk_at "pl_vs"
        refine k_setL rfl rfl (ixN_cast (by rw [List.length_map, hB.len]; exact hil)) ?_
        simp only [List.set_cons_zero, List.set_cons_succ]
        rw [show (B.map T.int).set i (.int a) = (B.set i a).map T.int by simp only [List.map_set]]
        walk_at "pl_vs"
        have hba := hbe i f a hf ha
        refine ag3 _ ⟨_, box_set hB hf hba.1 hba.2, fun u' i' hu' eu' => ?_, rfl⟩
        by_cases hii : i = i'
        · subst hii
          rw [List.getElem?_set_self (by rw [hB.len]; exact hil), ha]
        · rw [List.getElem?_set_ne hii]
          rw [tk] at hu'
          rcases List.mem_append.mp hu' with h | h
          · exact hBe u' i' h eu'
          · simp only [List.mem_singleton] at h
            injection h with h
            obtain rfl : u' = u := by omega
            rw [eu] at eu'
            exact absurd (Option.some.inj eu') hii
      · clear hx
        rintro Γ ⟨B, hB, hBe, rfl⟩
        rw [List.take_length] at hBe
        have iB := isF_ints B
        have hWl2 : (W.map sT).length < sizeLine := by rw [List.length_map]; omega
        walk_at "pl_vs"
        refine ag2 _ ⟨W ++ [B], ?_, by simp; omega, ?_⟩
        · rw [List.range_succ, List.map_append, ← List.append_assoc]
          exact hW.app (.one ⟨hB, fun u i h1 h2 => hBe u i ((hLm _).mpr ⟨u, rfl, h1⟩) h2⟩)
        · rw [List.map_append]
          rfl
    · clear hx hW hWl W
      rintro Γ ⟨W, hW, hWl, rfl⟩
      rw [List.length_map, List.length_range] at hW hWl
      rw [← pairsTo_succ] at hW
      walk_at "pl_vs"
      exact ag _ ⟨W, hW, by omega, rfl⟩
  · rintro Γ ⟨W, hW, hWl, rfl⟩
    rw [List.length_map, List.length_range] at hW hWl
    have hW : All2 (IsG fs e O) (pairsTo 4) W := hW
    have hW6 : W.length = 6 := by
      rw [hW.len]
      decide +kernel
    have hbW : ∀ x ∈ W, Box fs x := fun x hx => by
      obtain ⟨i, hi⟩ := List.mem_iff_getElem?.mp hx
      have hil := (List.getElem?_eq_some_iff.mp hi).1
      rw [hW.len] at hil
      exact (hW.at_ i _ x (List.getElem?_eq_getElem hil) hi).bx
    walk_at "pl_vs"
    refine c_pick hcs (by decide) fun lp lp0 lp1 => ?_
    walk_at "pl_vs"
    refine ⟨by omega, by omega, ?_⟩
    refine k_for (fun l Γ => ∃ X : List Sheet, X.length = l ∧ (∀ x ∈ X, Box fs x) ∧ Γ = [some (cellsT cs), some (.tup (fs.map fldT)), none, some (.lst true (O.map fun (k : Nat) => T.int k)), none, some (.lst true (e.map T.int)), none, some (.lst true ((W ++ X).map sT)), none, none, none, none, none, none, none, none]) ⟨[], rfl, by simp, by simp⟩ ?_ ?_
    · rintro l x Γ hx ⟨X, hXl, hX, rfl⟩ again ag
      obtain ⟨hl, rfl⟩ := rng0_get hx
      walk_at "pl_vs"
      refine k_lcR (fun x y => ∃ (i : Nat) (f : Fld) (a : Int), x = .tup [.int (i : Nat), fldT f] ∧ fs[i]? = some f ∧ y = .int a ∧ (f.2.1 ≤ a ∧ a ≤ f.2.2)) (fun x hx Kk kk => ?_) fun ys hys => ?_
      · obtain ⟨i, f, hf, rfl⟩ := enum_fs hx
        have := hfn i f hf
        have y1 : idxT (fldT f) (.int 1) = some (.int f.2.1) := rfl
        have y2 : idxT (fldT f) (.int 2) = some (.int f.2.2) := rfl
        unfold kTurn
        simp only [wipeE, List.set_cons_zero, List.set_cons_succ]
        walk_at "pl_vs"
        refine c_pick hcs (by omega) fun r r0 r1 => ?_
        walk_at "pl_vs"
        exact kk _ _ ⟨i, f, _, rfl, hf, rfl, by omega, by omega⟩ rfl
      obtain ⟨B, rfl, hBl, hB⟩ := enum_ints hys
      clear hys
      have iB := isF_ints B
      have hWl2 : ((W ++ X).map sT).length < sizeLine := by rw [List.length_map, List.length_append]; omega
      simp only [backE, keepF, List.getD_cons_zero, List.getD_cons_succ, List.set_cons_zero, List.set_cons_succ]
      walk_at "pl_vs"
      refine ag _ ⟨X ++ [B], by simp [hXl], fun x hx => ?_, ?_⟩
      · rcases List.mem_append.mp hx with h | h
        · exact hX x h
        · simp only [List.mem_singleton] at h
          subst h
          exact ⟨hBl, hB⟩
      · rw [← List.append_assoc, List.map_append (l₁ := W ++ X)]
        rfl
    · rintro Γ ⟨X, hXl, hX, rfl⟩
      rw [List.length_map, List.length_range] at hXl
      have hbWX : ∀ x ∈ W ++ X, Box fs x := fun x hx => by
        rcases List.mem_append.mp hx with h | h
        · exact hbW x h
        · exact hX x h
      have hal : ∀ V : List Sheet, (∀ x ∈ W, x ∈ V) → AllSeen fs V e := fun V hV => groups_all o hfl hW hV
      have hsub : ∀ x ∈ W, x ∈ W ++ X := fun x hx => List.mem_append_left _ hx
      have hVl : (W ++ X).length = 6 + X.length := by rw [List.length_append, hW6]
      generalize W ++ X = V at *
      have iV := isFs_sT V
      have hVl2 : (V.map sT).length = V.length := List.length_map _
      walk_at "pl_vs"
      refine c_pick hcs (by decide) fun g g0 g1 => ?_
      obtain ⟨g, rfl⟩ : ∃ g' : Nat, g = (g' : Int) := ⟨g.toNat, by omega⟩
      walk_at "pl_vs"
      refine c_pick hcs (by omega) fun t t0 t1 => ?_
      obtain ⟨t, rfl⟩ : ∃ t' : Nat, t = (t' : Int) := ⟨t.toNat, by omega⟩
      walk_at "pl_vs"
      rw [cut_to (by omega), show ((g : Nat) : Int) + 1 = ((g + 1 : Nat) : Int) by push_cast; rfl, cut_from (by omega), ← List.map_drop, ← List.map_take]
      refine o_addL (isFs_sT _) (isFs_sT _) (by simp only [List.length_map, List.length_drop, List.length_take]; omega) ?_
      rw [← List.map_append]
      have hlS : (V.take g ++ V.drop (g + 1)).length + 1 = V.length := by simp only [List.length_append, List.length_drop, List.length_take]; omega
      have hbS : ∀ x ∈ V.take g ++ V.drop (g + 1), Box fs x := fun x hx => by
        rcases List.mem_append.mp hx with h | h
        · exact hbWX x (List.mem_of_mem_take h)
        · exact hbWX x (List.mem_of_mem_drop h)
      generalize V.take g ++ V.drop (g + 1) = S at *
      have iS := isFs_sT S
      have hSl : (S.map sT).length = S.length := List.length_map _
      have mem1 : ∀ (L : List Sheet) (t : Nat) x, x ∈ L.drop t ++ L.take t ↔ x ∈ L := fun L t x => by
        rw [List.mem_append]
        constructor
        · rintro (h | h)
          · exact List.mem_of_mem_drop h
          · exact List.mem_of_mem_take h
        · intro h
          rw [← List.take_append_drop t L] at h
          exact (List.mem_append.mp h).symm
      walk_at "pl_vs"
      rw [cut_to (by omega), cut_from (by omega), ← List.map_drop, ← List.map_take]
      refine o_addL (isFs_sT _) (isFs_sT _) (by simp only [List.length_map, List.length_drop, List.length_take]; omega) ?_
      rw [← List.map_append]
      refine b_tupL (isFs_sT _) ?_
      walk_at "pl_vs"
      rw [cut_to (by omega), cut_from (by omega), ← List.map_drop, ← List.map_take]
      refine o_addL (isFs_sT _) (isFs_sT _) (by simp only [List.length_map, List.length_drop, List.length_take]; omega) ?_
      rw [← List.map_append]
      refine b_tupL (isFs_sT _) ?_
      walk_at "pl_vs"
      refine c_law_both ⟨by omega, be, fun x hx => hbWX x ((mem1 _ _ _).mp hx), fun h => ?_, by simp only [List.length_drop, List.length_take, List.length_append]; omega⟩ ⟨by omega, be, fun x hx => hbS x ((mem1 _ _ _).mp hx), fun h => ?_, by simp only [List.length_drop, List.length_take, List.length_append]; omega⟩ (hal _ fun x hx => (mem1 _ _ _).mpr (hsub x hx)) ?_
      · have := congrArg List.length h
        simp only [List.length_drop, List.length_take, List.length_append, List.length_nil] at this
        omega
      · have := congrArg List.length h
        simp only [List.length_drop, List.length_take, List.length_append, List.length_nil] at this
        omega
      walk_at "pl_vs"
      refine c_pick hcs (by decide) fun a a0 a1 => ?_
      obtain ⟨a, rfl⟩ : ∃ a' : Nat, a = (a' : Int) := ⟨a.toNat, by omega⟩
      have hal : a < fs.length := by omega
      have hf := List.getElem?_eq_getElem hal
      generalize fs[a] = f at hf
      have x1 := xf a f hf
      have y1 : idxT (fldT f) (.int 1) = some (.int f.2.1) := rfl
      have y2 : idxT (fldT f) (.int 2) = some (.int f.2.2) := rfl
      have hfr := hfn a f hf
      walk_at "pl_vs"
      refine c_pick hcs (by omega) fun r r0 r1 => ?_
      walk_at "pl_vs"
      refine ⟨⟨_, rfl⟩, ?_⟩
      walk_at "pl_vs"
      refine k_setL rfl rfl (ixN_cast (by rw [List.length_map]; omega)) ?_
      simp only [List.set_cons_zero, List.set_cons_succ]
      rw [show (e.map T.int).set a (.int (f.2.1 + r)) = (e.set a (f.2.1 + r)).map T.int by simp only [List.map_set]]
      have be2 : Box fs (e.set a (f.2.1 + r)) := box_set be hf (by omega) (by omega)
      have ie2 := isF_ints (e.set a (f.2.1 + r))
      walk_at "pl_vs"
      refine c_hull2 ⟨by omega, be2, hbWX, fun h => by rw [h] at hVl; simp at hVl; omega, by omega⟩ (fun y hy z hz hn => ?_) fun _ ls k hl hr hm => ?_
      · walk_at "pl_vs"
        exact q
      · walk_at "pl_vs"
        exact q
theorem v_law (h21 : Φ 21 = spF P_law_cells) (h33 : Φ 33 = spF P_web) (h34 : Φ 34 = spF P_web) : VC Φ [false] P_law il_law 2 := by
  rintro ts Q - - ⟨ns, rfl, q⟩
  show wpSs Φ il_law _ [some (.scr ns), none]
  unfold il_law
  have fns : isF (.scr ns) = true := rfl
  walk_at "pl_vs"
  refine c_law_cells fun cs hcs => ?_
  refine k_bind rfl ?_
  refine s_cons ?_
  refine s_frz rfl ?_
  simp only [List.set_cons_zero, List.set_cons_succ]
  rw [show fz (.lst true (cs.map T.int)) = cellsT cs from congrArg (T.lst false) (fzs_of_isF _ (isF_ints cs))]
  walk_at "pl_vs"
  refine c_web hcs ?_
  walk_at "pl_vs"
  refine c_web hcs ?_
  walk_at "pl_vs"
  exact q
end

end K80
section
set_option maxHeartbeats 0
namespace K80
open PySem PySem.Spec L2 PL
open PyProof.Rows hiding St
def Phi (i : Nat) : PL.Spec := match i with
  | 0 => spF P_is_integer
  | 1 => spF P_integer_within
  | 2 => spF P_tuple_of
  | 3 => spF P_holds_at
  | 4 => spF P_holds_in
  | 5 => spF P_answer_sayings
  | 6 => spF P_fits_field
  | 7 => spF P_saying_fault
  | 8 => spF P_is_saying
  | 9 => spF P_middle_of
  | 10 => spF P_things_of
  | 11 => spF P_made_by
  | 12 => spF P_is_recipe
  | 13 => spF P_makes
  | 14 => spF P_seen_together
  | 15 => spF P_all_sayings
  | 16 => spF P_unseen_two
  | 17 => spF P_recipe_for
  | 18 => spF P_hull_of
  | 19 => spF P_are_unseen
  | 20 => spF P_is_hull
  | 21 => spF P_law_cells
  | 22 => spF P_pick
  | 23 => spF P_law_fields
  | 24 => spF P_law_same
  | 25 => spF P_middle_of
  | 26 => spF P_between
  | 27 => spF P_law_sayings
  | 28 => spF P_holds_in
  | 29 => spF P_law_unseen
  | 30 => spF P_law_run
  | 31 => spF P_hull_of
  | 32 => spF P_law_both
  | 33 => spF P_web
  | 34 => spF P_web
  | 35 => spF P_law
  | _ => fun _ _ => False
section
variable {P : Program} {w : World} {K : PySem.W.Frag} {mg : PySem.Str → Option Value} {base : Heap}
theorem in_is_integer (N : ∀ x ∈ bltN, mg x = none) {f : Addr} {fd : FuncData} (F : FunD K "is_integer" "is_integer" (defArgs (top 1)) (defBody (top 1)) (defScope (top 1)) [] [] f fd) (g : mg "is_integer" = some (.ref f)) (a : AllF P w K mg base fs Phi 0) : AllF P w K mg base fs Phi 1 :=
  a.succ (x := "is_integer") (m := [false]) rfl (def_in a N F g sc_is_integer rfl ck_is_integer (v_is_integer (Φ := Phi) ) fun _ _ _ _ _ _ us hl => match us, hl with | [_], _ => rfl)
theorem in_integer_within (N : ∀ x ∈ bltN, mg x = none) {f : Addr} {fd : FuncData} (F : FunD K "integer_within" "integer_within" (defArgs (top 2)) (defBody (top 2)) (defScope (top 2)) [] [] f fd) (g : mg "integer_within" = some (.ref f)) (a : AllF P w K mg base fs Phi 1) : AllF P w K mg base fs Phi 2 :=
  a.succ (x := "integer_within") (m := [false, false, false]) rfl (def_in a N F g sc_integer_within rfl ck_integer_within (v_integer_within (Φ := Phi) rfl) fun _ _ _ _ _ _ us hl => match us, hl with | [_, _, _], _ => rfl)
theorem in_tuple_of (N : ∀ x ∈ bltN, mg x = none) {f : Addr} {fd : FuncData} (F : FunD K "tuple_of" "tuple_of" (defArgs (top 3)) (defBody (top 3)) (defScope (top 3)) [] [] f fd) (g : mg "tuple_of" = some (.ref f)) (a : AllF P w K mg base fs Phi 2) : AllF P w K mg base fs Phi 3 :=
  a.succ (x := "tuple_of") (m := [false, false]) rfl (def_in a N F g sc_tuple_of rfl ck_tuple_of (v_tuple_of (Φ := Phi) ) fun _ _ _ _ _ _ us hl => match us, hl with | [_, _], _ => rfl)
theorem in_holds_at (N : ∀ x ∈ bltN, mg x = none) {f : Addr} {fd : FuncData} (F : FunD K "holds_at" "holds_at" (defArgs (top 5)) (defBody (top 5)) (defScope (top 5)) [] [] f fd) (g : mg "holds_at" = some (.ref f)) (a : AllF P w K mg base fs Phi 3) : AllF P w K mg base fs Phi 4 :=
  a.succ (x := "holds_at") (m := [false, false]) rfl (def_in a N F g sc_holds_at rfl ck_holds_at (v_holds_at (Φ := Phi) ) fun _ _ _ _ _ _ us hl => match us, hl with | [_, _], _ => rfl)
theorem in_holds_in (N : ∀ x ∈ bltN, mg x = none) {f : Addr} {fd : FuncData} (F : FunD K "holds_in" "holds_in" (defArgs (top 6)) (defBody (top 6)) (defScope (top 6)) [] [] f fd) (g : mg "holds_in" = some (.ref f)) (a : AllF P w K mg base fs Phi 4) : AllF P w K mg base fs Phi 5 :=
  a.succ (x := "holds_in") (m := [false, false]) rfl (def_in a N F g sc_holds_in rfl ck_holds_in (v_holds_in (Φ := Phi) rfl) fun _ _ _ _ _ _ us hl => match us, hl with | [_, _], _ => rfl)
theorem in_answer_sayings (N : ∀ x ∈ bltN, mg x = none) {f : Addr} {fd : FuncData} (F : FunD K "answer_sayings" "answer_sayings" (defArgs (top 7)) (defBody (top 7)) (defScope (top 7)) [] [] f fd) (g : mg "answer_sayings" = some (.ref f)) (a : AllF P w K mg base fs Phi 5) : AllF P w K mg base fs Phi 6 :=
  a.succ (x := "answer_sayings") (m := [false, false, false]) rfl (def_in a N F g sc_answer_sayings rfl ck_answer_sayings (v_answer_sayings (Φ := Phi) ) fun _ _ _ _ _ _ us hl => match us, hl with | [_, _, _], _ => rfl)
theorem in_fits_field (N : ∀ x ∈ bltN, mg x = none) {f : Addr} {fd : FuncData} (F : FunD K "fits_field" "fits_field" (defArgs (top 9)) (defBody (top 9)) (defScope (top 9)) [] [] f fd) (g : mg "fits_field" = some (.ref f)) (a : AllF P w K mg base fs Phi 6) : AllF P w K mg base fs Phi 7 :=
  a.succ (x := "fits_field") (m := [false, false]) rfl (def_in a N F g sc_fits_field rfl ck_fits_field (v_fits_field (Φ := Phi) ) fun _ _ _ _ _ _ us hl => match us, hl with | [_, _], _ => rfl)
theorem in_saying_fault (N : ∀ x ∈ bltN, mg x = none) {f : Addr} {fd : FuncData} (F : FunD K "saying_fault" "saying_fault" (defArgs (top 10)) (defBody (top 10)) (defScope (top 10)) [] [] f fd) (g : mg "saying_fault" = some (.ref f)) (a : AllF P w K mg base fs Phi 7) : AllF P w K mg base fs Phi 8 :=
  a.succ (x := "saying_fault") (m := [false, false]) rfl (def_in a N F g sc_saying_fault rfl ck_saying_fault (v_saying_fault (Φ := Phi) rfl rfl rfl) fun _ _ _ _ _ _ us hl => match us, hl with | [_, _], _ => rfl)
theorem in_is_saying (N : ∀ x ∈ bltN, mg x = none) {f : Addr} {fd : FuncData} (F : FunD K "is_saying" "is_saying" (defArgs (top 12)) (defBody (top 12)) (defScope (top 12)) [] [] f fd) (g : mg "is_saying" = some (.ref f)) (a : AllF P w K mg base fs Phi 8) : AllF P w K mg base fs Phi 9 :=
  a.succ (x := "is_saying") (m := [false, false]) rfl (def_in a N F g sc_is_saying rfl ck_is_saying (v_is_saying (Φ := Phi) rfl) fun _ _ _ _ _ _ us hl => match us, hl with | [_, _], _ => rfl)
theorem in_middle_of (N : ∀ x ∈ bltN, mg x = none) {f : Addr} {fd : FuncData} (F : FunD K "middle_of" "middle_of" (defArgs (top 14)) (defBody (top 14)) (defScope (top 14)) [] [] f fd) (g : mg "middle_of" = some (.ref f)) (a : AllF P w K mg base fs Phi 9) : AllF P w K mg base fs Phi 10 :=
  a.succ (x := "middle_of") (m := [false, false, false]) rfl (def_in a N F g sc_middle_of rfl ck_middle_of (v_middle_of (Φ := Phi) ) fun _ _ _ _ _ _ us hl => match us, hl with | [_, _, _], _ => rfl)
theorem in_things_of (N : ∀ x ∈ bltN, mg x = none) {f : Addr} {fd : FuncData} (F : FunD K "things_of" "things_of" (defArgs (top 16)) (defBody (top 16)) (defScope (top 16)) [] [] f fd) (g : mg "things_of" = some (.ref f)) (a : AllF P w K mg base fs Phi 10) : AllF P w K mg base fs Phi 11 :=
  a.succ (x := "things_of") (m := [false, false]) rfl (def_in a N F g sc_things_of rfl ck_things_of (v_things_of (Φ := Phi) rfl) fun _ _ _ _ _ _ us hl => match us, hl with | [_, _], _ => rfl)
theorem in_made_by (N : ∀ x ∈ bltN, mg x = none) {f : Addr} {fd : FuncData} (F : FunD K "made_by" "made_by" (defArgs (top 17)) (defBody (top 17)) (defScope (top 17)) [] [] f fd) (g : mg "made_by" = some (.ref f)) (a : AllF P w K mg base fs Phi 11) : AllF P w K mg base fs Phi 12 :=
  a.succ (x := "made_by") (m := [false, false]) rfl (def_in a N F g sc_made_by rfl ck_made_by (v_made_by (Φ := Phi) rfl) fun _ _ _ _ _ _ us hl => match us, hl with | [_, _], _ => rfl)
theorem in_is_recipe (N : ∀ x ∈ bltN, mg x = none) {f : Addr} {fd : FuncData} (F : FunD K "is_recipe" "is_recipe" (defArgs (top 18)) (defBody (top 18)) (defScope (top 18)) [] [] f fd) (g : mg "is_recipe" = some (.ref f)) (a : AllF P w K mg base fs Phi 12) : AllF P w K mg base fs Phi 13 :=
  a.succ (x := "is_recipe") (m := [false, false]) rfl (def_in a N F g sc_is_recipe rfl ck_is_recipe (v_is_recipe (Φ := Phi) rfl rfl) fun _ _ _ _ _ _ us hl => match us, hl with | [_, _], _ => rfl)
theorem in_makes (N : ∀ x ∈ bltN, mg x = none) {f : Addr} {fd : FuncData} (F : FunD K "makes" "makes" (defArgs (top 19)) (defBody (top 19)) (defScope (top 19)) [] [] f fd) (g : mg "makes" = some (.ref f)) (a : AllF P w K mg base fs Phi 13) : AllF P w K mg base fs Phi 14 :=
  a.succ (x := "makes") (m := [false, false, false]) rfl (def_in a N F g sc_makes rfl ck_makes (v_makes (Φ := Phi) rfl rfl) fun _ _ _ _ _ _ us hl => match us, hl with | [_, _, _], _ => rfl)
theorem in_seen_together (N : ∀ x ∈ bltN, mg x = none) {f : Addr} {fd : FuncData} (F : FunD K "seen_together" "seen_together" (defArgs (top 21)) (defBody (top 21)) (defScope (top 21)) [] [] f fd) (g : mg "seen_together" = some (.ref f)) (a : AllF P w K mg base fs Phi 14) : AllF P w K mg base fs Phi 15 :=
  a.succ (x := "seen_together") (m := [false, false, false]) rfl (def_in a N F g sc_seen_together rfl ck_seen_together (v_seen_together (Φ := Phi) rfl) fun _ _ _ _ _ _ us hl => match us, hl with | [_, _, _], _ => rfl)
theorem in_all_sayings (N : ∀ x ∈ bltN, mg x = none) {f : Addr} {fd : FuncData} (F : FunD K "all_sayings" "all_sayings" (defArgs (top 22)) (defBody (top 22)) (defScope (top 22)) [] [] f fd) (g : mg "all_sayings" = some (.ref f)) (a : AllF P w K mg base fs Phi 15) : AllF P w K mg base fs Phi 16 :=
  a.succ (x := "all_sayings") (m := [false, false]) rfl (def_in a N F g sc_all_sayings rfl ck_all_sayings (v_all_sayings (Φ := Phi) rfl) fun _ _ _ _ _ _ us hl => match us, hl with | [_, _], _ => rfl)
theorem in_unseen_two (N : ∀ x ∈ bltN, mg x = none) {f : Addr} {fd : FuncData} (F : FunD K "unseen_two" "unseen_two" (defArgs (top 23)) (defBody (top 23)) (defScope (top 23)) [] [] f fd) (g : mg "unseen_two" = some (.ref f)) (a : AllF P w K mg base fs Phi 16) : AllF P w K mg base fs Phi 17 :=
  a.succ (x := "unseen_two") (m := [false, false, false]) rfl (def_in a N F g sc_unseen_two rfl ck_unseen_two (v_unseen_two (Φ := Phi) rfl rfl) fun _ _ _ _ _ _ us hl => match us, hl with | [_, _, _], _ => rfl)
theorem in_recipe_for (N : ∀ x ∈ bltN, mg x = none) {f : Addr} {fd : FuncData} (F : FunD K "recipe_for" "recipe_for" (defArgs (top 25)) (defBody (top 25)) (defScope (top 25)) [] [] f fd) (g : mg "recipe_for" = some (.ref f)) (a : AllF P w K mg base fs Phi 17) : AllF P w K mg base fs Phi 18 :=
  a.succ (x := "recipe_for") (m := [false, false, false]) rfl (def_in a N F g sc_recipe_for rfl ck_recipe_for (v_recipe_for (Φ := Phi) rfl rfl) fun _ _ _ _ _ _ us hl => match us, hl with | [_, _, _], _ => rfl)
theorem in_hull_of (N : ∀ x ∈ bltN, mg x = none) {f : Addr} {fd : FuncData} (F : FunD K "hull_of" "hull_of" (defArgs (top 26)) (defBody (top 26)) (defScope (top 26)) [] [] f fd) (g : mg "hull_of" = some (.ref f)) (a : AllF P w K mg base fs Phi 18) : AllF P w K mg base fs Phi 19 :=
  a.succ (x := "hull_of") (m := [false, false, false]) rfl (def_in a N F g sc_hull_of rfl ck_hull_of (v_hull_of (Φ := Phi) rfl rfl) fun _ _ _ _ _ _ us hl => match us, hl with | [_, _, _], _ => rfl)
theorem in_are_unseen (N : ∀ x ∈ bltN, mg x = none) {f : Addr} {fd : FuncData} (F : FunD K "are_unseen" "are_unseen" (defArgs (top 27)) (defBody (top 27)) (defScope (top 27)) [] [] f fd) (g : mg "are_unseen" = some (.ref f)) (a : AllF P w K mg base fs Phi 19) : AllF P w K mg base fs Phi 20 :=
  a.succ (x := "are_unseen") (m := [false, false, false, false]) rfl (def_in a N F g sc_are_unseen rfl ck_are_unseen (v_are_unseen (Φ := Phi) rfl rfl rfl) fun _ _ _ _ _ _ us hl => match us, hl with | [_, _, _, _], _ => rfl)
theorem in_is_hull (N : ∀ x ∈ bltN, mg x = none) {f : Addr} {fd : FuncData} (F : FunD K "is_hull" "is_hull" (defArgs (top 28)) (defBody (top 28)) (defScope (top 28)) [] [] f fd) (g : mg "is_hull" = some (.ref f)) (a : AllF P w K mg base fs Phi 20) : AllF P w K mg base fs Phi 21 :=
  a.succ (x := "is_hull") (m := [false, false, false, false]) rfl (def_in a N F g sc_is_hull rfl ck_is_hull (v_is_hull (Φ := Phi) rfl rfl rfl) fun _ _ _ _ _ _ us hl => match us, hl with | [_, _, _, _], _ => rfl)
theorem in__law_cells (N : ∀ x ∈ bltN, mg x = none) {f : Addr} {fd : FuncData} (F : FunD K "_law_cells" "_law_cells" (defArgs (top 30)) (defBody (top 30)) (defScope (top 30)) [] [] f fd) (g : mg "_law_cells" = some (.ref f)) (a : AllF P w K mg base fs Phi 21) : AllF P w K mg base fs Phi 22 :=
  a.succ (x := "_law_cells") (m := [false]) rfl (def_in a N F g sc__law_cells rfl ck__law_cells (v_law_cells (Φ := Phi) ) fun _ _ _ _ _ _ us hl => match us, hl with | [_], _ => rfl)
theorem in__law_pick (N : ∀ x ∈ bltN, mg x = none) {f : Addr} {fd : FuncData} (F : FunD K "_law_pick" "_law_pick" (defArgs (top 31)) (defBody (top 31)) (defScope (top 31)) [] [] f fd) (g : mg "_law_pick" = some (.ref f)) (a : AllF P w K mg base fs Phi 22) : AllF P w K mg base fs Phi 23 :=
  a.succ (x := "_law_pick") (m := [false, false, false]) rfl (def_in a N F g sc__law_pick rfl ck__law_pick (v_pick (Φ := Phi) ) fun _ _ _ _ _ _ us hl => match us, hl with | [_, _, _], _ => rfl)
theorem in__law_fields (N : ∀ x ∈ bltN, mg x = none) {f : Addr} {fd : FuncData} (F : FunD K "_law_fields" "_law_fields" (defArgs (top 32)) (defBody (top 32)) (defScope (top 32)) [] [] f fd) (g : mg "_law_fields" = some (.ref f)) (a : AllF P w K mg base fs Phi 23) : AllF P w K mg base fs Phi 24 :=
  a.succ (x := "_law_fields") (m := [false, false, false]) rfl (def_in a N F g sc__law_fields rfl ck__law_fields (v_law_fields (Φ := Phi) rfl) fun _ _ _ _ _ _ us hl => match us, hl with | [_, _, _], _ => rfl)
theorem in__law_same (N : ∀ x ∈ bltN, mg x = none) {f : Addr} {fd : FuncData} (F : FunD K "_law_same" "_law_same" (defArgs (top 37)) (defBody (top 37)) (defScope (top 37)) [] [] f fd) (g : mg "_law_same" = some (.ref f)) (a : AllF P w K mg base fs Phi 24) : AllF P w K mg base fs Phi 25 :=
  a.succ (x := "_law_same") (m := [false, false]) rfl (def_in a N F g sc__law_same rfl ck__law_same (v_law_same (Φ := Phi) ) fun _ _ _ _ _ _ us hl => match us, hl with | [_, _], _ => rfl)
theorem in__law_middle (N : ∀ x ∈ bltN, mg x = none) {f : Addr} {fd : FuncData} (F : FunD K "_law_middle" "_law_middle" (defArgs (top 33)) (defBody (top 33)) (defScope (top 33)) [] [] f fd) (g : mg "_law_middle" = some (.ref f)) (a : AllF P w K mg base fs Phi 25) : AllF P w K mg base fs Phi 26 :=
  a.succ (x := "_law_middle") (m := [false, false, false]) rfl (def_in a N F g sc__law_middle rfl ck__law_middle (v_law_middle (Φ := Phi) ) fun _ _ _ _ _ _ us hl => match us, hl with | [_, _, _], _ => rfl)
theorem in__law_between (N : ∀ x ∈ bltN, mg x = none) {f : Addr} {fd : FuncData} (F : FunD K "_law_between" "_law_between" (defArgs (top 41)) (defBody (top 41)) (defScope (top 41)) [] [] f fd) (g : mg "_law_between" = some (.ref f)) (a : AllF P w K mg base fs Phi 26) : AllF P w K mg base fs Phi 27 :=
  a.succ (x := "_law_between") (m := [false, false, false, false]) rfl (def_in a N F g sc__law_between rfl ck__law_between (v_between (Φ := Phi) rfl) fun _ _ _ _ _ _ us hl => match us, hl with | [_, _, _, _], _ => rfl)
theorem in__law_sayings (N : ∀ x ∈ bltN, mg x = none) {f : Addr} {fd : FuncData} (F : FunD K "_law_sayings" "_law_sayings" (defArgs (top 34)) (defBody (top 34)) (defScope (top 34)) [] [] f fd) (g : mg "_law_sayings" = some (.ref f)) (a : AllF P w K mg base fs Phi 27) : AllF P w K mg base fs Phi 28 :=
  a.succ (x := "_law_sayings") (m := [false, false]) rfl (def_in a N F g sc__law_sayings rfl ck__law_sayings (v_law_sayings (Φ := Phi) ) fun _ _ _ _ _ _ us hl => match us, hl with | [_, _], _ => rfl)
theorem in__law_holds (N : ∀ x ∈ bltN, mg x = none) {f : Addr} {fd : FuncData} (F : FunD K "_law_holds" "_law_holds" (defArgs (top 35)) (defBody (top 35)) (defScope (top 35)) [] [] f fd) (g : mg "_law_holds" = some (.ref f)) (a : AllF P w K mg base fs Phi 28) : AllF P w K mg base fs Phi 29 :=
  a.succ (x := "_law_holds") (m := [false, false]) rfl (def_in a N F g sc__law_holds rfl ck__law_holds (v_law_holds (Φ := Phi) ) fun _ _ _ _ _ _ us hl => match us, hl with | [_, _], _ => rfl)
theorem in__law_unseen (N : ∀ x ∈ bltN, mg x = none) {f : Addr} {fd : FuncData} (F : FunD K "_law_unseen" "_law_unseen" (defArgs (top 36)) (defBody (top 36)) (defScope (top 36)) [] [] f fd) (g : mg "_law_unseen" = some (.ref f)) (a : AllF P w K mg base fs Phi 29) : AllF P w K mg base fs Phi 30 :=
  a.succ (x := "_law_unseen") (m := [false, false]) rfl (def_in a N F g sc__law_unseen rfl ck__law_unseen (v_law_unseen (Φ := Phi) rfl) fun _ _ _ _ _ _ us hl => match us, hl with | [_, _], _ => rfl)
theorem in__law_run (N : ∀ x ∈ bltN, mg x = none) {f : Addr} {fd : FuncData} (F : FunD K "_law_run" "_law_run" (defArgs (top 38)) (defBody (top 38)) (defScope (top 38)) [] [] f fd) (g : mg "_law_run" = some (.ref f)) (a : AllF P w K mg base fs Phi 30) : AllF P w K mg base fs Phi 31 :=
  a.succ (x := "_law_run") (m := [false, false]) rfl (def_in a N F g sc__law_run rfl ck__law_run (v_law_run (Φ := Phi) rfl) fun _ _ _ _ _ _ us hl => match us, hl with | [_, _], _ => rfl)
theorem in__law_told (N : ∀ x ∈ bltN, mg x = none) {f : Addr} {fd : FuncData} (F : FunD K "_law_told" "_law_told" (defArgs (top 39)) (defBody (top 39)) (defScope (top 39)) [] [] f fd) (g : mg "_law_told" = some (.ref f)) (a : AllF P w K mg base fs Phi 31) : AllF P w K mg base fs Phi 32 :=
  a.succ (x := "_law_told") (m := [false, false, false]) rfl (def_in a N F g sc__law_told rfl ck__law_told (v_law_told (Φ := Phi) rfl rfl rfl rfl rfl rfl) fun _ _ _ _ _ _ us hl => match us, hl with | [_, _, _], _ => rfl)
theorem in__law_both (N : ∀ x ∈ bltN, mg x = none) {f : Addr} {fd : FuncData} (F : FunD K "_law_both" "_law_both" (defArgs (top 40)) (defBody (top 40)) (defScope (top 40)) [] [] f fd) (g : mg "_law_both" = some (.ref f)) (a : AllF P w K mg base fs Phi 32) : AllF P w K mg base fs Phi 33 :=
  a.succ (x := "_law_both") (m := [false, false, false, false]) rfl (def_in a N F g sc__law_both rfl ck__law_both (v_law_both (Φ := Phi) rfl rfl) fun _ _ _ _ _ _ us hl => match us, hl with | [_, _, _, _], _ => rfl)
theorem in__law_web (N : ∀ x ∈ bltN, mg x = none) {f : Addr} {fd : FuncData} (F : FunD K "_law_web" "_law_web" (defArgs (top 42)) (defBody (top 42)) (defScope (top 42)) [] [] f fd) (g : mg "_law_web" = some (.ref f)) (a : AllF P w K mg base fs Phi 33) : AllF P w K mg base fs Phi 34 :=
  a.succ (x := "_law_web") (m := [false]) rfl (def_in a N F g sc__law_web rfl ck__law_web (v_web (Φ := Phi) rfl rfl rfl rfl rfl rfl) fun _ _ _ _ _ _ us hl => match us, hl with | [_], _ => rfl)
theorem in__law_groups (N : ∀ x ∈ bltN, mg x = none) {f : Addr} {fd : FuncData} (F : FunD K "_law_groups" "_law_groups" (defArgs (top 43)) (defBody (top 43)) (defScope (top 43)) [] [] f fd) (g : mg "_law_groups" = some (.ref f)) (a : AllF P w K mg base fs Phi 34) : AllF P w K mg base fs Phi 35 :=
  a.succ (x := "_law_groups") (m := [false]) rfl (def_in a N F g sc__law_groups rfl ck__law_groups (v_groups (Φ := Phi) rfl rfl rfl rfl) fun _ _ _ _ _ _ us hl => match us, hl with | [_], _ => rfl)
theorem in_law (N : ∀ x ∈ bltN, mg x = none) {f : Addr} {fd : FuncData} (F : FunD K "law" "law" (defArgs (top 44)) (defBody (top 44)) (defScope (top 44)) [] [] f fd) (g : mg "law" = some (.ref f)) (a : AllF P w K mg base fs Phi 35) : AllF P w K mg base fs Phi 36 :=
  a.succ (x := "law") (m := [false]) rfl (def_in a N F g sc_law rfl ck_law (v_law (Φ := Phi) rfl rfl rfl) fun _ _ _ _ _ _ us hl => match us, hl with | [_], _ => rfl)
end
theorem facts {P : Program} {w : World} {K : PySem.W.Frag} {h : Heap} {mg : PySem.Str → Option Value} {f : Addr} (X : K.In h) (G : h.Ns mainGlobals mg) (hfa : mg ("law" : PySem.Str) = some (.ref f)) (c : He.SaysD HeadT.fa HeadT.fn K) :
    ∃ fd : FuncData, (∀ (s : Shared) (v : Value), BindsTo s fd ⟨[v], []⟩ [("script", v)]) ∧ ∀ base : Heap, K.In base → base.Ns mainGlobals mg → FnOk P w K mg base CX0 36 f fd ["script"] (spT K [false] (spF P_law)) := by
  have N : ∀ x ∈ bltN, mg x = none := by
    intro x hx
    simp only [bltN, List.mem_cons, List.not_mem_nil, or_false] at hx
    rcases hx with rfl | rfl | rfl | rfl | rfl | rfl | rfl | rfl | rfl | rfl | rfl | rfl | rfl | rfl | rfl | rfl | rfl
    · exact He.free_ok X G (c.fact 36 (f := .free "len") rfl)
    · exact He.free_ok X G (c.fact 37 (f := .free "list") rfl)
    · exact He.free_ok X G (c.fact 38 (f := .free "tuple") rfl)
    · exact He.free_ok X G (c.fact 39 (f := .free "int") rfl)
    · exact He.free_ok X G (c.fact 40 (f := .free "sorted") rfl)
    · exact He.free_ok X G (c.fact 41 (f := .free "abs") rfl)
    · exact He.free_ok X G (c.fact 42 (f := .free "sum") rfl)
    · exact He.free_ok X G (c.fact 43 (f := .free "all") rfl)
    · exact He.free_ok X G (c.fact 44 (f := .free "any") rfl)
    · exact He.free_ok X G (c.fact 45 (f := .free "str") rfl)
    · exact He.free_ok X G (c.fact 46 (f := .free "isinstance") rfl)
    · exact He.free_ok X G (c.fact 47 (f := .free "bool") rfl)
    · exact He.free_ok X G (c.fact 48 (f := .free "max") rfl)
    · exact He.free_ok X G (c.fact 49 (f := .free "min") rfl)
    · exact He.free_ok X G (c.fact 50 (f := .free "range") rfl)
    · exact He.free_ok X G (c.fact 51 (f := .free "enumerate") rfl)
    · exact He.free_ok X G (c.fact 52 (f := .free "zip") rfl)
  obtain ⟨d0, F0⟩ := c.def_ 0 (d := HeadT.mkD "is_integer" 1) rfl
  obtain ⟨d1, F1⟩ := c.def_ 1 (d := HeadT.mkD "integer_within" 2) rfl
  obtain ⟨d2, F2⟩ := c.def_ 2 (d := HeadT.mkD "tuple_of" 3) rfl
  obtain ⟨d3, F3⟩ := c.def_ 3 (d := HeadT.mkD "holds_at" 5) rfl
  obtain ⟨d4, F4⟩ := c.def_ 4 (d := HeadT.mkD "holds_in" 6) rfl
  obtain ⟨d5, F5⟩ := c.def_ 5 (d := HeadT.mkD "answer_sayings" 7) rfl
  obtain ⟨d6, F6⟩ := c.def_ 6 (d := HeadT.mkD "fits_field" 9) rfl
  obtain ⟨d7, F7⟩ := c.def_ 7 (d := HeadT.mkD "saying_fault" 10) rfl
  obtain ⟨d8, F8⟩ := c.def_ 8 (d := HeadT.mkD "is_saying" 12) rfl
  obtain ⟨d9, F9⟩ := c.def_ 9 (d := HeadT.mkD "middle_of" 14) rfl
  obtain ⟨d10, F10⟩ := c.def_ 10 (d := HeadT.mkD "things_of" 16) rfl
  obtain ⟨d11, F11⟩ := c.def_ 11 (d := HeadT.mkD "made_by" 17) rfl
  obtain ⟨d12, F12⟩ := c.def_ 12 (d := HeadT.mkD "is_recipe" 18) rfl
  obtain ⟨d13, F13⟩ := c.def_ 13 (d := HeadT.mkD "makes" 19) rfl
  obtain ⟨d14, F14⟩ := c.def_ 14 (d := HeadT.mkD "seen_together" 21) rfl
  obtain ⟨d15, F15⟩ := c.def_ 15 (d := HeadT.mkD "all_sayings" 22) rfl
  obtain ⟨d16, F16⟩ := c.def_ 16 (d := HeadT.mkD "unseen_two" 23) rfl
  obtain ⟨d17, F17⟩ := c.def_ 17 (d := HeadT.mkD "recipe_for" 25) rfl
  obtain ⟨d18, F18⟩ := c.def_ 18 (d := HeadT.mkD "hull_of" 26) rfl
  obtain ⟨d19, F19⟩ := c.def_ 19 (d := HeadT.mkD "are_unseen" 27) rfl
  obtain ⟨d20, F20⟩ := c.def_ 20 (d := HeadT.mkD "is_hull" 28) rfl
  obtain ⟨d21, F21⟩ := c.def_ 21 (d := HeadT.mkD "_law_cells" 30) rfl
  obtain ⟨d22, F22⟩ := c.def_ 22 (d := HeadT.mkD "_law_pick" 31) rfl
  obtain ⟨d23, F23⟩ := c.def_ 23 (d := HeadT.mkD "_law_fields" 32) rfl
  obtain ⟨d24, F24⟩ := c.def_ 28 (d := HeadT.mkD "_law_same" 37) rfl
  obtain ⟨d25, F25⟩ := c.def_ 24 (d := HeadT.mkD "_law_middle" 33) rfl
  obtain ⟨d26, F26⟩ := c.def_ 32 (d := HeadT.mkD "_law_between" 41) rfl
  obtain ⟨d27, F27⟩ := c.def_ 25 (d := HeadT.mkD "_law_sayings" 34) rfl
  obtain ⟨d28, F28⟩ := c.def_ 26 (d := HeadT.mkD "_law_holds" 35) rfl
  obtain ⟨d29, F29⟩ := c.def_ 27 (d := HeadT.mkD "_law_unseen" 36) rfl
  obtain ⟨d30, F30⟩ := c.def_ 29 (d := HeadT.mkD "_law_run" 38) rfl
  obtain ⟨d31, F31⟩ := c.def_ 30 (d := HeadT.mkD "_law_told" 39) rfl
  obtain ⟨d32, F32⟩ := c.def_ 31 (d := HeadT.mkD "_law_both" 40) rfl
  obtain ⟨d33, F33⟩ := c.def_ 33 (d := HeadT.mkD "_law_web" 42) rfl
  obtain ⟨d34, F34⟩ := c.def_ 34 (d := HeadT.mkD "_law_groups" 43) rfl
  obtain ⟨d35, F35⟩ := c.def_ 35 (d := HeadT.mkD "law" 44) rfl
  have e := hfa.symm.trans (He.glo_ok X G (c.fact 35 (f := .glo "law") rfl))
  cases e
  have b := FunD.bindsA (ps := ["script"]) F35 fun _ _ _ _ _ _ us hl => match us, hl with | [_], _ => rfl
  refine ⟨d35, fun s v => b s [v] rfl, fun base _ _ => ?_⟩
  have a1 : AllF P w K mg base fs Phi 1 := in_is_integer N F0 (He.glo_ok X G (c.fact 0 (f := .glo "is_integer") rfl)) AllF.zero
  have a2 : AllF P w K mg base fs Phi 2 := in_integer_within N F1 (He.glo_ok X G (c.fact 1 (f := .glo "integer_within") rfl)) a1
  have a3 : AllF P w K mg base fs Phi 3 := in_tuple_of N F2 (He.glo_ok X G (c.fact 2 (f := .glo "tuple_of") rfl)) a2
  have a4 : AllF P w K mg base fs Phi 4 := in_holds_at N F3 (He.glo_ok X G (c.fact 3 (f := .glo "holds_at") rfl)) a3
  have a5 : AllF P w K mg base fs Phi 5 := in_holds_in N F4 (He.glo_ok X G (c.fact 4 (f := .glo "holds_in") rfl)) a4
  have a6 : AllF P w K mg base fs Phi 6 := in_answer_sayings N F5 (He.glo_ok X G (c.fact 5 (f := .glo "answer_sayings") rfl)) a5
  have a7 : AllF P w K mg base fs Phi 7 := in_fits_field N F6 (He.glo_ok X G (c.fact 6 (f := .glo "fits_field") rfl)) a6
  have a8 : AllF P w K mg base fs Phi 8 := in_saying_fault N F7 (He.glo_ok X G (c.fact 7 (f := .glo "saying_fault") rfl)) a7
  have a9 : AllF P w K mg base fs Phi 9 := in_is_saying N F8 (He.glo_ok X G (c.fact 8 (f := .glo "is_saying") rfl)) a8
  have a10 : AllF P w K mg base fs Phi 10 := in_middle_of N F9 (He.glo_ok X G (c.fact 9 (f := .glo "middle_of") rfl)) a9
  have a11 : AllF P w K mg base fs Phi 11 := in_things_of N F10 (He.glo_ok X G (c.fact 10 (f := .glo "things_of") rfl)) a10
  have a12 : AllF P w K mg base fs Phi 12 := in_made_by N F11 (He.glo_ok X G (c.fact 11 (f := .glo "made_by") rfl)) a11
  have a13 : AllF P w K mg base fs Phi 13 := in_is_recipe N F12 (He.glo_ok X G (c.fact 12 (f := .glo "is_recipe") rfl)) a12
  have a14 : AllF P w K mg base fs Phi 14 := in_makes N F13 (He.glo_ok X G (c.fact 13 (f := .glo "makes") rfl)) a13
  have a15 : AllF P w K mg base fs Phi 15 := in_seen_together N F14 (He.glo_ok X G (c.fact 14 (f := .glo "seen_together") rfl)) a14
  have a16 : AllF P w K mg base fs Phi 16 := in_all_sayings N F15 (He.glo_ok X G (c.fact 15 (f := .glo "all_sayings") rfl)) a15
  have a17 : AllF P w K mg base fs Phi 17 := in_unseen_two N F16 (He.glo_ok X G (c.fact 16 (f := .glo "unseen_two") rfl)) a16
  have a18 : AllF P w K mg base fs Phi 18 := in_recipe_for N F17 (He.glo_ok X G (c.fact 17 (f := .glo "recipe_for") rfl)) a17
  have a19 : AllF P w K mg base fs Phi 19 := in_hull_of N F18 (He.glo_ok X G (c.fact 18 (f := .glo "hull_of") rfl)) a18
  have a20 : AllF P w K mg base fs Phi 20 := in_are_unseen N F19 (He.glo_ok X G (c.fact 19 (f := .glo "are_unseen") rfl)) a19
  have a21 : AllF P w K mg base fs Phi 21 := in_is_hull N F20 (He.glo_ok X G (c.fact 20 (f := .glo "is_hull") rfl)) a20
  have a22 : AllF P w K mg base fs Phi 22 := in__law_cells N F21 (He.glo_ok X G (c.fact 21 (f := .glo "_law_cells") rfl)) a21
  have a23 : AllF P w K mg base fs Phi 23 := in__law_pick N F22 (He.glo_ok X G (c.fact 22 (f := .glo "_law_pick") rfl)) a22
  have a24 : AllF P w K mg base fs Phi 24 := in__law_fields N F23 (He.glo_ok X G (c.fact 23 (f := .glo "_law_fields") rfl)) a23
  have a25 : AllF P w K mg base fs Phi 25 := in__law_same N F24 (He.glo_ok X G (c.fact 28 (f := .glo "_law_same") rfl)) a24
  have a26 : AllF P w K mg base fs Phi 26 := in__law_middle N F25 (He.glo_ok X G (c.fact 24 (f := .glo "_law_middle") rfl)) a25
  have a27 : AllF P w K mg base fs Phi 27 := in__law_between N F26 (He.glo_ok X G (c.fact 32 (f := .glo "_law_between") rfl)) a26
  have a28 : AllF P w K mg base fs Phi 28 := in__law_sayings N F27 (He.glo_ok X G (c.fact 25 (f := .glo "_law_sayings") rfl)) a27
  have a29 : AllF P w K mg base fs Phi 29 := in__law_holds N F28 (He.glo_ok X G (c.fact 26 (f := .glo "_law_holds") rfl)) a28
  have a30 : AllF P w K mg base fs Phi 30 := in__law_unseen N F29 (He.glo_ok X G (c.fact 27 (f := .glo "_law_unseen") rfl)) a29
  have a31 : AllF P w K mg base fs Phi 31 := in__law_run N F30 (He.glo_ok X G (c.fact 29 (f := .glo "_law_run") rfl)) a30
  have a32 : AllF P w K mg base fs Phi 32 := in__law_told N F31 (He.glo_ok X G (c.fact 30 (f := .glo "_law_told") rfl)) a31
  have a33 : AllF P w K mg base fs Phi 33 := in__law_both N F32 (He.glo_ok X G (c.fact 31 (f := .glo "_law_both") rfl)) a32
  have a34 : AllF P w K mg base fs Phi 34 := in__law_web N F33 (He.glo_ok X G (c.fact 33 (f := .glo "_law_web") rfl)) a33
  have a35 : AllF P w K mg base fs Phi 35 := in__law_groups N F34 (He.glo_ok X G (c.fact 34 (f := .glo "_law_groups") rfl)) a34
  exact def_ok 35 200 F35 sc_law rfl a35 (Nat.le_refl _) N ck_law (v_law (Φ := Phi) rfl rfl rfl)
end K80
end
set_option maxHeartbeats 0
open PySem PySem.W PySem.Calls PyProof.Rows
theorem PySem.Challenge.cw_halffilled_k80_whole_hull_wide_holds : PySem.Challenge.rw_halffilled_k80_whole_hull_wide.Holds := by
  w_on; o_law
  refine HandSHeadRun.head_any (r := OpenLaw.row PySem.Challenge.rw_halffilled_k80_whole_hull_wide) (q := view (OpenLaw.row PySem.Challenge.rw_halffilled_k80_whole_hull_wide).prog [44]) (H := HeadT.hk) (ob := HeadT.ob) (M := 3000) (loose := HeadT.nm) (d := HandSHeadRun.topDef (OpenLaw.row PySem.Challenge.rw_halffilled_k80_whole_hull_wide).prog 44) (kwd := []) HeadT.ob_eq
    (by kernel_rfl) (fun s => by kernel_rfl) HeadT.run (by kernel_rfl) (by kernel_rfl) (by kernel_rfl) (by rfl) (by first | assumption | decide +kernel) (by decide +kernel) ⟨rfl, rfl, rfl, rfl, rfl, by decide +kernel⟩ ?hw ?hc
  case hw => w_witness2
  case hc =>
    refine L2.walk_ofE (l := PySem.Challenge.rw_halffilled_k80_whole_hull_wide) (n := 63) (k := 36) (x := "script") (CX := L2.CX0) rfl (by decide) (by kernel_rfl) ⟨rfl, by decide, by decide⟩ ?F (fun _ _ _ _ z => z)
    intro w mg fa h Y G hmg0
    obtain ⟨K, KX, c⟩ := Y
    have hmg : mg ("law" : PySem.Str) = some (.ref fa) := by
      have e : (HandSHeadRun.topDef (OpenLaw.row PySem.Challenge.rw_halffilled_k80_whole_hull_wide).prog 44).name = ("law" : PySem.Str) := by kernel_rfl
      rw [← e]
      exact hmg0
    obtain ⟨fd, hb, hF⟩ := K80.facts (P := (PySem.Challenge.rw_halffilled_k80_whole_hull_wide).prog) (w := w) KX G hmg c
    exact ⟨K, fd, PL.spT K [false] (PL.spF K80.P_law), KX, hb, fun H a ns hl _ hS => PL.law_sp hS fun Q q => ⟨ns, rfl, q⟩, hF⟩

