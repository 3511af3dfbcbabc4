import PyProof.Rows.All
import Wide.All
import OpenK.AllK
import Wide.FinOn
import HandS.ForMost
import HandS.Wide
import HandS.Deep
import HandS.TupAny
import HandS.Walk
import HandS.Zip
import HandS.Conv
import HandS.Style
import HandS.Flow
import HandS.IsInst
import HandS.DictTup
import HandS.Defaults
import KE.SortData
import KE.DataCmp
import KE.GoesEnum
import HandS.TupLen
import KE.KTupSum
import KE.KeyNested
import HandS.TupSets
import KE.DataMinMax
import HandS.Star
import KE.KStateDown
import HandS.ForExc
import HandS.WordsExc
import HandS.Head0
import HandS.Head1
import HandS.Head2
import HandS.HeadEnd
import HandS.HeadHook1
import HandS.HeadHook2
import PySem.Challenge.RW_halffilled_k84_whole_centres
set_option Elab.async false
set_option linter.all false
set_option maxRecDepth 100000
set_option maxHeartbeats 1000000
section
set_option maxHeartbeats 4000000
/-! PLa: plain values T (trees), the little language IL over slots, and what must hold ahead of each piece of it (wp). -/
namespace PL
open PySem L2

/-! ### values -/
inductive T where
  | non | bl (b : Bool) | int (i : Int) | str (x : Str)
  | tup (xs : List T)
  | lst (o : Bool) (xs : List T)
  | dic (o : Bool) (ks vs : List T)
  /-- the law's script -/
  | scr (ns : List Int)
  deriving Inhabited

mutual
/-- nothing in it is owned -/
def isF : T → Bool
  | .non => true
  | .bl _ => true
  | .int _ => true
  | .str _ => true
  | .tup xs => isFs xs
  | .lst o xs => !o && isFs xs
  | .dic o ks vs => !o && (isFs ks && isFs vs)
  | .scr _ => true
def isFs : List T → Bool
  | [] => true
  | x :: xs => isF x && isFs xs
end
mutual
/-- all of it frozen -/
def fz : T → T
  | .non => .non
  | .bl b => .bl b
  | .int i => .int i
  | .str x => .str x
  | .tup xs => .tup (fzs xs)
  | .lst _ xs => .lst false (fzs xs)
  | .dic _ ks vs => .dic false (fzs ks) (fzs vs)
  | .scr ns => .scr ns
def fzs : List T → List T
  | [] => []
  | x :: xs => fz x :: fzs xs
end
mutual
/-- as the library's data -/
def data : T → PyData
  | .non => .none
  | .bl b => .bool b
  | .int i => .int i
  | .str x => .str x
  | .tup xs => .tuple (datas xs)
  | .lst _ xs => .list (datas xs)
  | .dic _ _ _ => .dict []
  | .scr _ => .dict []
def datas : List T → List PyData
  | [] => []
  | x :: xs => data x :: datas xs
end
theorem isFs_all : ∀ xs : List T, isFs xs = xs.all isF
  | [] => by simp [isFs]
  | x :: xs => by simp [isFs, isFs_all xs]
theorem fzs_map : ∀ xs : List T, fzs xs = xs.map fz
  | [] => by simp [fzs]
  | x :: xs => by simp [fzs, fzs_map xs]
theorem datas_map : ∀ xs : List T, datas xs = xs.map data
  | [] => by simp [datas]
  | x :: xs => by simp [datas, datas_map xs]
theorem isFs_mem {xs : List T} (h : isFs xs = true) {x : T} (hx : x ∈ xs) : isF x = true := by
  rw [isFs_all] at h
  exact List.all_eq_true.mp h x hx
mutual
theorem fz_isF : ∀ t : T, isF (fz t) = true
  | .non => rfl
  | .bl _ => rfl
  | .int _ => rfl
  | .str _ => rfl
  | .tup xs => by simp [fz, isF, fzs_isF xs]
  | .lst _ xs => by simp [fz, isF, fzs_isF xs]
  | .dic _ ks vs => by simp [fz, isF, fzs_isF ks, fzs_isF vs]
  | .scr _ => rfl
theorem fzs_isF : ∀ xs : List T, isFs (fzs xs) = true
  | [] => rfl
  | x :: xs => by simp [fzs, isFs, fz_isF x, fzs_isF xs]
end
mutual
theorem fz_of_isF : ∀ t : T, isF t = true → fz t = t
  | .non, _ => rfl
  | .bl _, _ => rfl
  | .int _, _ => rfl
  | .str _, _ => rfl
  | .tup xs, h => by simp only [isF] at h; simp only [fz, fzs_of_isF xs h]
  | .lst o xs, h => by
    simp only [isF, Bool.and_eq_true, Bool.not_eq_true'] at h
    simp only [fz, fzs_of_isF xs h.2, h.1]
  | .dic o ks vs, h => by
    simp only [isF, Bool.and_eq_true, Bool.not_eq_true'] at h
    simp only [fz, fzs_of_isF ks h.2.1, fzs_of_isF vs h.2.2, h.1]
  | .scr _, _ => rfl
theorem fzs_of_isF : ∀ xs : List T, isFs xs = true → fzs xs = xs
  | [], _ => rfl
  | x :: xs, h => by
    simp only [isFs, Bool.and_eq_true] at h
    simp only [fzs, fz_of_isF x h.1, fzs_of_isF xs h.2]
end

/-! ### operations on values -/
inductive Op where
  | add | sub | mul | fdiv | mod | pow | shl | band | bor
  deriving DecidableEq
inductive Rl where
  | eq | ne | lt | le | gt | ge | inn | nin | is | isn
  deriving DecidableEq

def opP : Op → T → T → (T → Prop) → Prop
  | .add, .int i, .int j, Q => Q (.int (i + j))
  | .add, .str x, .str y, Q => x.length + y.length ≤ sizeLine ∧ Q (.str (x ++ y))
  | .add, .tup xs, .tup ys, Q => isFs xs = true ∧ isFs ys = true ∧ xs.length + ys.length ≤ sizeLine ∧ Q (.tup (xs ++ ys))
  | .add, .lst _ xs, .lst _ ys, Q => isFs xs = true ∧ isFs ys = true ∧ xs.length + ys.length ≤ sizeLine ∧ Q (.lst true (xs ++ ys))
  | .sub, .int i, .int j, Q => Q (.int (i - j))
  | .mul, .int i, .int j, Q => (CMul i j ∨ CMulW i j) ∧ Q (.int (i * j))
  | .mul, .lst _ xs, .int k, Q => isFs xs = true ∧ -(2 ^ 63) ≤ k ∧ k < 2 ^ 63 ∧ xs.length * k.toNat ≤ sizeLine ∧ Q (.lst true (List.replicate k.toNat xs).flatten)
  | .fdiv, .int i, .int j, Q => CDiv i j ∧ Q (.int (i / j))
  | .mod, .int i, .int j, Q => 0 < j ∧ Q (.int (i % j))
  | .pow, .int i, .int j, Q => CPow i j ∧ Q (.int (i ^ j.toNat))
  | .shl, .int i, .int j, Q => CPow i j ∧ Q (.int (i * 2 ^ j.toNat))
  | .band, .int i, .int j, Q => Q (.int (Builtin.bitAnd i j))
  | .bor, .int i, .int j, Q => Q (.int (Builtin.bitOr i j))
  | _, _, _, _ => False

/-- a value that == and < and in may look at -/
def shp (t : T) : Bool := SeqAt.shaped (data t)
def eqT (a b : T) : Bool := PyData.eqv (data a) (data b)
/-- the two may be ordered -/
def ordable (a b : T) : Bool := shp a && (shp b && (PySem.W.alike (data a) (data b) && !(match a with | .non => true | _ => false)))
def ltT (a b : T) : Bool := PySem.W.dataLt (data a) (data b)
def selfA (a : T) : Bool := PySem.W.alike (data a) (data a)
/-- min(x, y), max(x, y) of data -/
def mmD (mx : Bool) (a b : T) : T := if (if mx = true then ltT a b else ltT b a) = true then b else a
/-- min(xs), max(xs) of ints -/
def mmI (mx : Bool) (n : Int) (ns : List Int) : Int := if mx = true then ns.foldl max n else ns.foldl min n

def items : T → Option (List T)
  | .tup xs => some xs
  | .lst _ xs => some xs
  | _ => none

/-- a key of a dict: an int or a text; a tuple of such -/
def k1 : T → Option Key
  | .int i => some (.inl i)
  | .str x => some (.inr x)
  | _ => none
def k1s : List T → Option (List Key)
  | [] => some []
  | x :: xs => (k1 x).bind fun k => (k1s xs).map (k :: ·)
def kT : T → Option (List Key)
  | .tup xs => k1s xs
  | _ => none
/-- the key is of the kind of the dict's own -/
def keyFit (a : T) (ks : List T) : Bool := ((k1 a).isSome && ks.all fun x => (k1 x).isSome) || ((kT a).isSome && ks.all fun x => (kT x).isSome)
/-- the place of a key -/
def keyIx (k : T) (ks : List T) : Option Nat := ks.findIdx? (fun x => eqT x k)
/-- a dict's keys, its values behind d[k] = v -/
def putKs (k : T) (ks : List T) : List T := if (keyIx k ks).isSome then ks else ks ++ [k]
def putVs (k v : T) (ks vs : List T) : List T := if (keyIx k ks).isSome then List.zipWith (fun x y => if eqT x k then v else y) ks vs else vs ++ [v]
/-- x op= y at a name -/
def augP : Op → T → T → (T → Prop) → Prop
  | .add, .int i, .int j, Q => Q (.int (i + j))
  | .sub, .int i, .int j, Q => Q (.int (i - j))
  | .mul, .int i, .int j, Q => CMul i j ∧ Q (.int (i * j))
  | .fdiv, .int i, .int j, Q => CDiv i j ∧ Q (.int (i / j))
  | .mod, .int i, .int j, Q => 0 < j ∧ Q (.int (i % j))
  | .add, .str x, .str y, Q => x.length + y.length ≤ sizeLine ∧ Q (.str (x ++ y))
  | _, _, _, _ => False

def isNon : T → Bool
  | .non => true
  | _ => false
def rlP : Rl → T → T → (Bool → Prop) → Prop
  | .eq, a, b, Q => shp a = true ∧ shp b = true ∧ Q (eqT a b)
  | .ne, a, b, Q => shp a = true ∧ shp b = true ∧ Q (!eqT a b)
  | .lt, .int i, .int j, Q => Q (decide (i < j))
  | .le, .int i, .int j, Q => Q (decide (i ≤ j))
  | .gt, .int i, .int j, Q => Q (decide (j < i))
  | .ge, .int i, .int j, Q => Q (decide (j ≤ i))
  | .lt, a, b, Q => ordable a b = true ∧ Q (ltT a b)
  | .gt, a, b, Q => ordable a b = true ∧ Q (ltT b a)
  | .le, a, b, Q => ordable a b = true ∧ Q (!ltT b a)
  | .ge, a, b, Q => ordable a b = true ∧ Q (!ltT a b)
  | .inn, a, .dic _ ks _, Q => keyFit a ks = true ∧ Q (keyIx a ks).isSome
  | .nin, a, .dic _ ks _, Q => keyFit a ks = true ∧ Q (!(keyIx a ks).isSome)
  | .inn, a, .lst _ xs, Q => shp a = true ∧ shp (.lst false xs) = true ∧ Q (xs.any fun x => eqT x a)
  | .nin, a, .lst _ xs, Q => shp a = true ∧ shp (.lst false xs) = true ∧ Q (!xs.any fun x => eqT x a)
  | .inn, a, .tup xs, Q => shp a = true ∧ shp (.tup xs) = true ∧ Q (xs.any fun x => eqT x a)
  | .nin, a, .tup xs, Q => shp a = true ∧ shp (.tup xs) = true ∧ Q (!xs.any fun x => eqT x a)
  | .is, a, .non, Q => Q (isNon a)
  | .isn, a, .non, Q => Q (!isNon a)
  | .is, .bl a, .bl b, Q => Q (a == b)
  | .isn, .bl a, .bl b, Q => Q (!(a == b))
  | _, _, _, _ => False

def isDic : T → Bool
  | .dic _ _ _ => true
  | _ => false
def isLst : T → Bool
  | .lst _ _ => true
  | _ => false
/-- truth of a value -/
def tru : T → Option Bool
  | .non => some false
  | .bl b => some b
  | .int i => some (i != 0)
  | .tup xs => some (!xs.isEmpty)
  | .lst _ xs => some (!xs.isEmpty)
  | .dic _ _ _ => none
  | .str _ => none
  | .scr _ => none

def idxT : T → T → Option T
  | .tup xs, .int i => atI xs i
  | .lst _ xs, .int i => atI xs i
  | .str z, .int i => if z.length ≤ sizeLine then (atI z.cps.toList i).map fun c => .str ⟨#[c]⟩ else none
  | .dic _ ks vs, k => if keyFit k ks then (keyIx k ks).bind fun j => vs[j]? else none
  | _, _ => none

/-- a slice: None's stand for parts left out -/
def slP : T → Option Int → Option Int → (T → Prop) → Prop
  | .tup xs, lo, hi, Q => isFs xs = true ∧ Q (.tup (cutV' xs lo hi))
  | .lst _ xs, lo, hi, Q => isFs xs = true ∧ Q (.lst true (cutV' xs lo hi))
  | .str z, lo, hi, Q => z.length ≤ sizeLine ∧ Q (.str (cutS z lo hi))
  | .scr ns, lo, hi, Q => Q (.lst true (cutV' (ns.map T.int) lo hi))
  | _, _, _, _ => False
where
  cutV' {α : Type} (xs : List α) (lo hi : Option Int) : List α := (xs.drop (HT.sIx xs.length 0 lo)).take (HT.sIx xs.length xs.length hi - HT.sIx xs.length 0 lo)

/-- the built-in classes that isinstance asks for -/
inductive Ty where
  | int | bool | str | tuple | list
  deriving DecidableEq
def isTy : Ty → T → Bool
  | .int, .int _ => true
  | .int, .bl _ => true
  | .bool, .bl _ => true
  | .str, .str _ => true
  | .tuple, .tup _ => true
  | .list, .lst _ _ => true
  | .list, .scr _ => true
  | _, _ => false

/-- built-ins of one value -/
inductive Bi where
  | len | list | tuple | int | sorted | abs | sum | all | any | str
  deriving DecidableEq
def intsT : List T → Option (List Int)
  | [] => some []
  | .int i :: r => (intsT r).map (i :: ·)
  | _ => none
def blsT : List T → Option (List Bool)
  | [] => some []
  | .bl b :: r => (blsT r).map (b :: ·)
  | _ => none
/-- xs can be sorted here: all alike, none None, tuples with an item at least (or no tuples at all) -/
def sortable (xs : List T) : Prop := PySem.W.AllAlike (datas xs) ∧ PySem.W.Sortable (datas xs) ∧ ∀ x ∈ xs, shp x = true
def biP : Bi → T → (T → Prop) → Prop
  | .len, .tup xs, Q => Q (.int xs.length)
  | .len, .lst _ xs, Q => Q (.int xs.length)
  | .len, .str z, Q => z.length ≤ sizeLine ∧ Q (.int z.length)
  | .len, .dic _ ks _, Q => Q (.int ks.length)
  | .list, .tup xs, Q => isFs xs = true ∧ Q (.lst true xs)
  | .list, .lst _ xs, Q => isFs xs = true ∧ Q (.lst true xs)
  | .tuple, .tup xs, Q => isFs xs = true ∧ Q (.tup xs)
  | .tuple, .lst _ xs, Q => isFs xs = true ∧ Q (.tup xs)
  | .int, .int i, Q => Q (.int i)
  | .int, .bl b, Q => Q (.int (if b then 1 else 0))
  | .abs, .int i, Q => Q (.int (if i < 0 then -i else i))
  | .sum, .lst _ xs, Q => ∃ ns, intsT xs = some ns ∧ Q (.int ns.sum)
  | .sum, .tup xs, Q => ∃ ns, intsT xs = some ns ∧ Q (.int ns.sum)
  | .all, .lst _ xs, Q => ∃ bs, blsT xs = some bs ∧ Q (.bl (bs.all id))
  | .any, .lst _ xs, Q => ∃ bs, blsT xs = some bs ∧ Q (.bl (bs.any id))
  | .str, .int i, Q => i.natAbs.log2 < 1920 ∧ Q (.str (toString i))
  | .sorted, .lst _ xs, Q => isFs xs = true ∧ sortable xs ∧ Q (.lst true (xs.mergeSort (PySem.W.dataLe false data)))
  | .sorted, .tup xs, Q => isFs xs = true ∧ sortable xs ∧ Q (.lst true (xs.mergeSort (PySem.W.dataLe false data)))
  | _, _, _ => False
/-- built-ins of two values: min(a, b), max(a, b) -/
def mmP (mx : Bool) (a b : T) (Q : T → Prop) : Prop :=
  (∃ m n, a = .int m ∧ b = .int n ∧ Q (.int (if mx then (if n > m then n else m) else (if n < m then n else m)))) ∨
  (ordable a b = true ∧ selfA a = true ∧ selfA b = true ∧ isF a = true ∧ isF b = true ∧ Q (mmD mx a b))

mutual
/-- ints and tuples of such -/
def nOk : T → Bool
  | .int _ => true
  | .tup xs => nOks xs
  | _ => false
def nOks : List T → Bool
  | [] => true
  | x :: xs => nOk x && nOks xs
end
mutual
def dep : T → Nat
  | .tup xs => deps xs + 1
  | _ => 0
def deps : List T → Nat
  | [] => 0
  | x :: xs => max (dep x) (deps xs)
end
/-- a tuple that may be in a set -/
def tOk : T → Bool
  | .tup xs => nOks xs && decide (dep (.tup xs) ≤ 8)
  | _ => false

/-- sorted(set(xs)): zs are the members -/
def ssetP (x : T) (Q : T → Prop) : Prop := ∃ o xs, x = .lst o xs ∧ isFs xs = true ∧ xs.length < 64 ∧ (∀ t ∈ xs, tOk t = true) ∧ sortable xs ∧
  ∀ zs : List T, zs.Nodup → (∀ z, z ∈ zs ↔ z ∈ xs) → Q (.lst true (zs.mergeSort (PySem.W.dataLe false data)))
/-- min(xs), max(xs) -/
def mmlP (mx : Bool) (x : T) (Q : T → Prop) : Prop := ∃ o xs n ns, x = .lst o xs ∧ intsT xs = some (n :: ns) ∧ Q (.int (mmI mx n ns))

/-- zip( *xs ): xs are tuples -/
def mnL : List (List T) → Nat
  | [] => 0
  | [c] => c.length
  | c :: r => min c.length (mnL r)
def zipT (ts us : List T) : List T := (ts.zip us).map fun z => .tup [z.1, z.2]
def zipsP (xs : List T) (R : List T → Prop) : Prop := ∃ cs : List (List T), xs = cs.map T.tup ∧ cs ≠ [] ∧ R ((List.range (mnL cs)).map fun i => .tup (cs.map fun c => c.getD i .non))

/-! ### slots -/
abbrev Env := List (Option T)
def wipeE : List Nat → Env → Env
  | [], Γ => Γ
  | v :: vs, Γ => (wipeE vs Γ).set v none
def keepF : Option T → Option T
  | some t => if isF t = true then some t else none
  | none => none
/-- the slots vs as they are in Γ0 (if nothing is owned there), the others as in Γ -/
def backE : List Nat → Env → Env → Env
  | [], _, Γ => Γ
  | v :: vs, Γ0, Γ => (backE vs Γ0 Γ).set v (keepF (Γ0.getD v none))

inductive G where
  | nm (i : Nat)
  | tp (gs : List G)
mutual
def bindG : G → T → Env → Option Env
  | .nm i, t, Γ => if i < Γ.length then some (Γ.set i (some t)) else none
  | .tp gs, .tup xs, Γ => bindGs gs xs Γ
  | .tp _, _, _ => none
def bindGs : List G → List T → Env → Option Env
  | [], [], Γ => some Γ
  | g :: gs, x :: xs, Γ => (bindG g x Γ).bind fun Γ1 => bindGs gs xs Γ1
  | _, _, _ => none
end

/-! ### the little language -/
mutual
inductive E where
  | non | bl (b : Bool) | int (i : Int) | str (x : Str)
  | cp (i : Nat) | take (i : Nat) | fz (e : E)
  | tup (es : Es) | lst (es : Es) | dic0
  | op (o : Op) (a b : E) | neg (a : E)
  | and (a b : E) | or (a b : E) | nott (p : P)
  | cmp (r : Rl) (a b : P) | chain (r1 r2 : Rl) (a b c : E)
  | ifx (c : C) (a b : E)
  | idx (p : P) (i : E) | sl (p : P) (lo hi : Oe)
  | call (f : Nat) (es : Es)
  | bi (b : Bi) (p : P) | mm (mx : Bool) (a b : E) | isi (p : P) (ty : Ty)
  | lc (own : List Nat) (it : I) (g : G) (c : Oc) (e : E)
  | lc2 (own : List Nat) (it : I) (g : G) (c : Oc) (own1 : List Nat) (it1 : I) (g1 : G) (c1 : Oc) (e : E)
  | pop (i : Nat) | get (p : P) (k d : E) | index (p : P) (k : E)
  | lrg (a b : E) | szip (a b : E) | sset (p : P) | mml (mx : Bool) (p : P)
inductive Es where
  | nil | cons (e : E) (es : Es) | lend (i : Nat) (es : Es)
inductive P where
  | var (i : Nat) | tmp (e : E)
inductive Oe where
  | no | so (e : E)
inductive C where
  | val (p : P) | and (a b : C) | or (a b : C) | not (c : C) | cmp (r : Rl) (a b : P) | chain (r1 r2 : Rl) (a b c : E)
inductive Oc where
  | no | so (c : C)
inductive I where
  | zips (p : P) | seq (p : P) | rng1 (a : E) | rng2 (a b : E) | enum (p : P) | zip2 (p q : P) | zip3 (p q r : P)
end
mutual
inductive S where
  | asg (g : G) (e : E) | setIx (i : Nat) (k e : E) | aug (i : Nat) (o : Op) (e : E)
  | app (i : Nat) (e : E) | ext (i : Nat) (p : P) | ex (e : E)
  | ret (e : E) | retN
  | iff (c : C) (a b : Ss) | forr (g : G) (it : I) (body : Ss) | forB (g : G) (i : Nat) (body : Ss) | whl (c : C) (body : Ss)
  | brk | cnt | pas | kill (ks : List Nat) | frz (i : Nat)
inductive Ss where
  | nil | cons (s : S) (ss : Ss)
end

/-! ### what must hold ahead -/
/-- what a def is to be asked for: its arguments, what is wanted of its value and of its in-and-out parameters -/
abbrev Spec := List T → (T → List T → Prop) → Prop
structure Ends where
  nx : Env → Prop
  rt : T → Env → Prop
  bk : Env → Prop := fun _ => False
  ct : Env → Prop := fun _ => False

/-- a comprehension's turns -/
def lcLoop (own : List Nat) (step : T → Env → (Option T → Env → Prop) → Prop) : List T → Env → List T → (List T → Env → Prop) → Prop
  | [], Γ, acc, K => K acc Γ
  | x :: xs, Γ, acc, K => step x (wipeE own Γ) fun y Γ' => lcLoop own step xs (wipeE own Γ') (acc ++ y.toList) K
/-- .. with what is gathered so far -/
def lcA (own : List Nat) (step : T → Env → List T → (List T → Env → Prop) → Prop) : List T → Env → List T → (List T → Env → Prop) → Prop
  | [], Γ, acc, K => K acc Γ
  | x :: xs, Γ, acc, K => step x (wipeE own Γ) acc fun acc' Γ' => lcA own step xs (wipeE own Γ') acc' K
/-- a for's turns -/
def forLoop (step : T → (Env → Prop) → Env → Prop) (nx : Env → Prop) : List T → Env → Prop
  | [], Γ => nx Γ
  | x :: xs, Γ => step x (forLoop step nx xs) Γ
/-- a while's turns, n at most -/
def whlLoop (step : (Env → Prop) → Env → Prop) : Nat → Env → Prop
  | 0, _ => False
  | n + 1, Γ => step (whlLoop step n) Γ

def lentBack : List Nat → List T → Env → Env
  | i :: is, t :: ts, Γ => lentBack is ts (Γ.set i (some t))
  | _, _, Γ => Γ
/-- the slots that are lent in a list of arguments -/
def lends : Es → List Nat
  | .nil => []
  | .cons _ es => lends es
  | .lend i es => i :: lends es

/-- what an operand holds in the end: x, or what its slot holds now -/
def look : P → T → Env → T → Prop
  | .var i, _, Γ, t => Γ[i]? = some (some t)
  | .tmp _, x, _, t => t = x
/-- the arguments that aren't lent own nothing -/
def argsF : Es → List T → Bool
  | .nil, _ => true
  | .cons _ es, t :: ts => isF t && argsF es ts
  | .lend _ es, _ :: ts => argsF es ts
  | _, [] => true

/-- the outermost thing frozen -/
def sfz : T → T
  | .lst _ xs => .lst false xs
  | .dic _ ks vs => .dic false ks vs
  | t => t
/-- a name that is gone through is frozen -/
def holdE : P → T → Env → Env
  | .var i, t, Γ => Γ.set i (some (sfz t))
  | .tmp _, _, Γ => Γ
def hold (p : P) (x : T) (Γ : Env) (Q : List T → Env → Prop) : Prop := ∃ xs, items x = some xs ∧ isFs xs = true ∧ Q xs (holdE p x Γ)
/-- a range that a comprehension goes through is not too long -/
def lcCap : I → List T → Prop
  | .rng1 _, xs => xs.length ≤ sizeLine
  | .rng2 _ _, xs => xs.length ≤ sizeLine
  | .zips _, xs => xs.length ≤ sizeLine
  | _, _ => True

section
variable (Φ : Nat → Spec)
mutual
def wpE : E → Env → (T → Env → Prop) → Prop
  | .non, Γ, Q => Q .non Γ
  | .bl b, Γ, Q => Q (.bl b) Γ
  | .int i, Γ, Q => Q (.int i) Γ
  | .str x, Γ, Q => Q (.str x) Γ
  | .cp i, Γ, Q => ∃ t, Γ[i]? = some (some t) ∧ isF t = true ∧ Q t Γ
  | .take i, Γ, Q => ∃ t, Γ[i]? = some (some t) ∧ Q t (Γ.set i none)
  | .fz e, Γ, Q => wpE e Γ fun t Γ' => Q (fz t) Γ'
  | .tup es, Γ, Q => wpEs es Γ fun ts Γ' => ts.length ≤ sizeLine ∧ Q (.tup ts) Γ'
  | .lst es, Γ, Q => wpEs es Γ fun ts Γ' => ts.length ≤ sizeLine ∧ Q (.lst true ts) Γ'
  | .dic0, Γ, Q => Q (.dic true [] []) Γ
  | .op o a b, Γ, Q => wpE a Γ fun x Γ1 => wpE b Γ1 fun y Γ2 => opP o x y fun z => Q z Γ2
  | .neg a, Γ, Q => wpE a Γ fun x Γ1 => ∃ i, x = .int i ∧ Q (.int (-i)) Γ1
  | .and a b, Γ, Q => wpE a Γ fun x Γ1 => ∃ c, x = .bl c ∧ if c = true then wpE b Γ1 Q else Q (.bl false) Γ1
  | .or a b, Γ, Q => wpE a Γ fun x Γ1 => ∃ c, x = .bl c ∧ if c = true then Q (.bl true) Γ1 else wpE b Γ1 Q
  | .nott p, Γ, Q => wpP p Γ fun x Γ1 => ∃ c, tru x = some c ∧ Q (.bl (!c)) Γ1
  | .cmp r a b, Γ, Q => wpP a Γ fun x Γ1 => wpP b Γ1 fun y Γ2 => ∃ x', look a x Γ2 x' ∧ rlP r x' y fun c => Q (.bl c) Γ2
  | .chain r1 r2 a b c, Γ, Q => wpE a Γ fun x Γ1 => wpE b Γ1 fun y Γ2 => isF y = true ∧ rlP r1 x y fun c1 => if c1 = true then wpE c Γ2 fun z Γ3 => rlP r2 y z fun c2 => Q (.bl c2) Γ3 else Q (.bl false) Γ2
  | .ifx c a b, Γ, Q => wpC c Γ fun d Γ1 => if d = true then wpE a Γ1 Q else wpE b Γ1 Q
  | .idx p i, Γ, Q => wpP p Γ fun x Γ1 => wpE i Γ1 fun y Γ2 => ∃ x', look p x Γ2 x' ∧ ∃ v, idxT x' y = some v ∧ isF v = true ∧ Q v Γ2
  | .sl p lo hi, Γ, Q => wpP p Γ fun x Γ1 => wpOe lo Γ1 fun l Γ2 => wpOe hi Γ2 fun h Γ3 => ∃ x', look p x Γ3 x' ∧ slP x' l h fun v => Q v Γ3
  | .call f es, Γ, Q => wpEs es Γ fun ts Γ1 => argsF es ts = true ∧ Φ f ts fun v io => io.length = (lends es).length ∧ Q v (lentBack (lends es) io Γ1)
  | .bi b p, Γ, Q => wpP p Γ fun x Γ1 => biP b x fun v => Q v Γ1
  | .mm mx a b, Γ, Q => wpE a Γ fun x Γ1 => wpE b Γ1 fun y Γ2 => mmP mx x y fun v => Q v Γ2
  | .isi p ty, Γ, Q => wpP p Γ fun x Γ1 => Q (.bl (isTy ty x)) Γ1
  | .lc own it g c e, Γ, Q => wpI it Γ fun xs Γ1 => lcCap it xs ∧
      lcLoop own (fun x Γ' K => ∃ Γ2, bindG g x Γ' = some Γ2 ∧ wpOc c Γ2 fun b Γ3 => if b = true then wpE e Γ3 fun y Γ4 => isF y = true ∧ K (some y) Γ4 else K none Γ3) xs Γ1 [] fun ys Γ' => Q (.lst true ys) (backE own Γ1 Γ')
  | .lc2 own it g c own1 it1 g1 c1 e, Γ, Q => wpI it Γ fun xs Γ1 => lcCap it xs ∧
      lcA own (fun x Γ' acc K => ∃ Γ2, bindG g x Γ' = some Γ2 ∧ wpOc c Γ2 fun b Γ3 => if b = true then wpI it1 Γ3 (fun ys Γ4 => lcCap it1 ys ∧
        lcA own1 (fun y Γ5 acc1 K1 => ∃ Γ6, bindG g1 y Γ5 = some Γ6 ∧ wpOc c1 Γ6 fun b1 Γ7 => if b1 = true then wpE e Γ7 fun z Γ8 => isF z = true ∧ acc1.length < sizeLine ∧ K1 (acc1 ++ [z]) Γ8 else K1 acc1 Γ7) ys Γ4 acc K) else K acc Γ3) xs Γ1 [] fun ys Γ' => Q (.lst true ys) (backE own Γ1 Γ')
  | .pop i, Γ, Q => ∃ xs y, Γ[i]? = some (some (.lst true xs)) ∧ xs.getLast? = some y ∧ isFs xs = true ∧ Q y (Γ.set i (some (.lst true xs.dropLast)))
  | .get p k d, Γ, Q => wpP p Γ fun x Γ1 => isDic x = true ∧ wpE k Γ1 fun y Γ2 => wpE d Γ2 fun z Γ3 => ∃ x', look p x Γ3 x' ∧ ∃ o ks vs, x' = .dic o ks vs ∧ keyFit y ks = true ∧ isF z = true ∧ isFs vs = true ∧ Q (((keyIx y ks).bind fun j => vs[j]?).getD z) Γ3
  | .index p k, Γ, Q => wpP p Γ fun x Γ1 => isLst x = true ∧ wpE k Γ1 fun y Γ2 => ∃ x', look p x Γ2 x' ∧ ∃ o xs j, x' = .lst o xs ∧ shp (.lst o xs) = true ∧ shp y = true ∧ keyIx y xs = some j ∧ Q (.int (j : Nat)) Γ2
  | .lrg a b, Γ, Q => wpE a Γ fun x Γ1 => wpE b Γ1 fun y Γ2 => ∃ m n, x = .int m ∧ y = .int n ∧ RgOk m n ∧ Q (.lst true ((List.range (n - m).toNat).map fun (k : Nat) => .int (m + k))) Γ2
  | .szip a b, Γ, Q => wpE a Γ fun x Γ1 => wpE b Γ1 fun y Γ2 => ∃ xs ys, items x = some xs ∧ items y = some ys ∧ isFs xs = true ∧ isFs ys = true ∧ sortable (zipT xs ys) ∧ Q (.lst true ((zipT xs ys).mergeSort (PySem.W.dataLe false data))) Γ2
  | .sset p, Γ, Q => wpP p Γ fun x Γ1 => ssetP x fun v => Q v Γ1
  | .mml mx p, Γ, Q => wpP p Γ fun x Γ1 => mmlP mx x fun v => Q v Γ1
def wpEs : Es → Env → (List T → Env → Prop) → Prop
  | .nil, Γ, Q => Q [] Γ
  | .cons e es, Γ, Q => wpE e Γ fun x Γ1 => wpEs es Γ1 fun xs Γ2 => Q (x :: xs) Γ2
  | .lend i es, Γ, Q => (∃ t, Γ[i]? = some (some t)) ∧ wpEs es Γ fun xs Γ2 => ∃ t, Γ2[i]? = some (some t) ∧ Q (t :: xs) (Γ2.set i none)
def wpP : P → Env → (T → Env → Prop) → Prop
  | .var i, Γ, Q => ∃ t, Γ[i]? = some (some t) ∧ Q t Γ
  | .tmp e, Γ, Q => wpE e Γ Q
def wpOe : Oe → Env → (Option Int → Env → Prop) → Prop
  | .no, Γ, Q => Q none Γ
  | .so e, Γ, Q => wpE e Γ fun x Γ1 => ∃ i, x = .int i ∧ Q (some i) Γ1
def wpC : C → Env → (Bool → Env → Prop) → Prop
  | .val p, Γ, Q => wpP p Γ fun x Γ1 => ∃ c, tru x = some c ∧ Q c Γ1
  | .and a b, Γ, Q => wpC a Γ fun c Γ1 => if c = true then wpC b Γ1 Q else Q false Γ1
  | .or a b, Γ, Q => wpC a Γ fun c Γ1 => if c = true then Q true Γ1 else wpC b Γ1 Q
  | .not a, Γ, Q => wpC a Γ fun c Γ1 => Q (!c) Γ1
  | .cmp r a b, Γ, Q => wpP a Γ fun x Γ1 => wpP b Γ1 fun y Γ2 => ∃ x', look a x Γ2 x' ∧ rlP r x' y fun c => Q c Γ2
  | .chain r1 r2 a b c, Γ, Q => wpE a Γ fun x Γ1 => wpE b Γ1 fun y Γ2 => isF y = true ∧ rlP r1 x y fun c1 => if c1 = true then wpE c Γ2 fun z Γ3 => rlP r2 y z fun c2 => Q c2 Γ3 else Q false Γ2
def wpOc : Oc → Env → (Bool → Env → Prop) → Prop
  | .no, Γ, Q => Q true Γ
  | .so c, Γ, Q => wpC c Γ Q
def wpI : I → Env → (List T → Env → Prop) → Prop
  | .seq p, Γ, R => wpP p Γ fun x Γ1 => hold p x Γ1 R
  | .zips p, Γ, R => wpP p Γ fun x Γ1 => hold p x Γ1 fun xs Γ2 => zipsP xs fun ys => R ys Γ2
  | .rng1 a, Γ, R => wpE a Γ fun x Γ1 => ∃ n, x = .int n ∧ -(2 ^ 62) ≤ n ∧ n < 2 ^ 62 ∧ R ((List.range n.toNat).map fun (k : Nat) => .int k) Γ1
  | .rng2 a b, Γ, R => wpE a Γ fun x Γ1 => wpE b Γ1 fun y Γ2 => ∃ m n, x = .int m ∧ y = .int n ∧ (-(2 ^ 62) ≤ m ∧ m < 2 ^ 62 ∧ -(2 ^ 62) ≤ n ∧ n < 2 ^ 62) ∧ R ((List.range (n - m).toNat).map fun (k : Nat) => .int (m + k)) Γ2
  | .enum p, Γ, R => wpP p Γ fun x Γ1 => hold p x Γ1 fun xs Γ2 => R (xs.zipIdx.map fun q => .tup [.int (q.2 : Nat), q.1]) Γ2
  | .zip2 p q, Γ, R => wpP p Γ fun x Γ1 => hold p x Γ1 fun xs Γ2 => wpP q Γ2 fun y Γ3 => hold q y Γ3 fun ys Γ4 => R ((xs.zip ys).map fun z => .tup [z.1, z.2]) Γ4
  | .zip3 p q r, Γ, R => wpP p Γ fun x Γ1 => hold p x Γ1 fun xs Γ2 => wpP q Γ2 fun y Γ3 => hold q y Γ3 fun ys Γ4 => wpP r Γ4 fun z Γ5 => hold r z Γ5 fun zs Γ6 =>
      R ((xs.zip (ys.zip zs)).map fun z => .tup [z.1, z.2.1, z.2.2]) Γ6
end
mutual
def wpS : S → Ends → Env → Prop
  | .asg g e, D, Γ => wpE Φ e Γ fun t Γ1 => ∃ Γ2, bindG g t Γ1 = some Γ2 ∧ D.nx Γ2
  | .setIx i k e, D, Γ => wpE Φ e Γ fun t Γ1 => (∃ u, Γ1[i]? = some (some u)) ∧ wpE Φ k Γ1 fun y Γ2 => isF t = true ∧
      ((∃ xs j q, Γ2[i]? = some (some (.lst true xs)) ∧ y = .int j ∧ ixN xs.length j = some q ∧ D.nx (Γ2.set i (some (.lst true (xs.set q t))))) ∨
       (∃ ks vs, Γ2[i]? = some (some (.dic true ks vs)) ∧ keyFit y ks = true ∧ isFs vs = true ∧ ks.length < sizeLine ∧
         D.nx (Γ2.set i (some (.dic true (putKs y ks) (putVs y t ks vs))))))
  | .aug i o e, D, Γ => ∃ x, Γ[i]? = some (some x) ∧ isF x = true ∧ wpE Φ e Γ fun y Γ1 => augP o x y fun z => D.nx (Γ1.set i (some z))
  | .app i e, D, Γ => (∃ o us, Γ[i]? = some (some (.lst o us))) ∧ wpE Φ e Γ fun t Γ1 => ∃ xs, Γ1[i]? = some (some (.lst true xs)) ∧ xs.length < sizeLine ∧ D.nx (Γ1.set i (some (.lst true (xs ++ [t]))))
  | .ext i p, D, Γ => (∃ o us, Γ[i]? = some (some (.lst o us))) ∧ wpP Φ p Γ fun t Γ1 => ∃ xs ys, Γ1[i]? = some (some (.lst true xs)) ∧ items t = some ys ∧ isFs ys = true ∧ xs.length + ys.length ≤ sizeLine ∧ D.nx (Γ1.set i (some (.lst true (xs ++ ys))))
  | .ex e, D, Γ => wpE Φ e Γ fun _ Γ1 => D.nx Γ1
  | .ret e, D, Γ => wpE Φ e Γ D.rt
  | .retN, D, Γ => D.rt .non Γ
  | .iff c a b, D, Γ => wpC Φ c Γ fun d Γ1 => if d = true then wpSs a D Γ1 else wpSs b D Γ1
  | .forr g it body, D, Γ => wpI Φ it Γ fun xs Γ1 => forLoop (fun x again Γ' => ∃ Γ2, bindG g x Γ' = some Γ2 ∧ wpSs body { D with nx := again, ct := again, bk := D.nx } Γ2) D.nx xs Γ1
  | .forB g i body, D, Γ => ∃ ys, Γ[i]? = some (some (.lst true ys)) ∧ isFs ys = true ∧ forLoop (fun x again Γ' => ∃ Γ2, bindG g x Γ' = some Γ2 ∧ wpSs body { D with nx := again, ct := again, bk := fun Γ2 => D.nx (Γ2.set i (some (.lst true ys))) } Γ2)
      (fun Γ2 => D.nx (Γ2.set i (some (.lst true ys)))) ys (Γ.set i none)
  | .whl c body, D, Γ => ∃ n, whlLoop (fun again Γ' => wpC Φ c Γ' fun d Γ1 => if d = true then wpSs body { D with nx := again, ct := again, bk := D.nx } Γ1 else D.nx Γ1) n Γ
  | .brk, D, Γ => D.bk Γ
  | .cnt, D, Γ => D.ct Γ
  | .pas, D, Γ => D.nx Γ
  | .kill ks, D, Γ => D.nx (wipeE ks Γ)
  | .frz i, D, Γ => ∃ t, Γ[i]? = some (some t) ∧ D.nx (Γ.set i (some (fz t)))
def wpSs : Ss → Ends → Env → Prop
  | .nil, D, Γ => D.nx Γ
  | .cons s ss, D, Γ => wpS s { D with nx := wpSs ss D } Γ
end
end
end PL

end
section
set_option maxHeartbeats 4000000
/-! PLb: how plain values lie in the abstract heap (Rep), what a step may do to the heap (Ext), the state of a body (Ok). -/
namespace PL
open PySem PySem.Spec L2
open PyProof.Rows hiding St

def allK1 : List T → List Key → Prop
  | [], [] => True
  | t :: ts, k :: ks => k1 t = some k ∧ allK1 ts ks
  | _, _ => False
def allKT : List T → List (List Key) → Prop
  | [], [] => True
  | t :: ts, k :: ks => kT t = some k ∧ allKT ts ks
  | _, _ => False

/-- a list, a tuple that the written part holds -/
def KwL (K : PySem.W.Frag) (a : Addr) (xs : List V) : Prop :=
  ∃ (o : Obj) (its : Array Value) (n : Nat), K.lookup a = some o ∧ o.cls = .type "list" ∧ o.dict = none ∧ o.data = .seq its n ∧ its.size ≤ sizeLine ∧ Vals xs its.toList
section
variable (K : PySem.W.Frag) (H : Hp) (Z : Addr → Prop)
/-- frozen at a: never changed again -/
def FzL (a : Addr) (vs : List V) : Prop := Z a ∧ Rd H a (.lst vs)
def FzT (a : Addr) (vs : List V) : Prop := Z a ∧ H a = some (.tup vs)
/-- a dict with these keys and values, frozen or not by P -/
def DicAt (P : HO → Prop) (ks : List T) (vv : List V) : Prop :=
  (∃ kk : List Key, allK1 ks kk ∧ kk.length = vv.length ∧ P (.dK (kk.zip vv))) ∨ (∃ kk : List (List Key), allKT ks kk ∧ kk.length = vv.length ∧ P (.dT (kk.zip vv)))
mutual
def Rep : T → List Addr → V → Prop
  | .non, os, v => os = [] ∧ v = .non
  | .bl b, os, v => os = [] ∧ v = .bl b
  | .int i, os, v => os = [] ∧ v = .int i
  | .str x, os, v => os = [] ∧ v = .str x
  | .tup ts, os, v => ∃ a vs, v = .ref a ∧ FzT H Z a vs ∧ Reps ts os vs
  | .lst o ts, os, v => ∃ a vs, v = .ref a ∧ (match o with
    | true => ∃ os', os = a :: os' ∧ H a = some (.lst vs) ∧ Reps ts os' vs
    | false => os = [] ∧ FzL H Z a vs ∧ Reps ts [] vs)
  | .dic o ks ts, os, v => ∃ a vs, v = .ref a ∧ (match o with
    | true => ∃ os', os = a :: os' ∧ DicAt (fun u => H a = some u) ks vs ∧ Reps ts os' vs
    | false => os = [] ∧ DicAt (fun u => Z a ∧ H a = some u) ks vs ∧ Reps ts [] vs)
  | .scr ns, os, v => os = [] ∧ ∃ a, v = .ref a ∧ ((Z a ∧ Rd H a (.lst (ns.map V.int))) ∨ KwL K a (ns.map V.int))
def Reps : List T → List Addr → List V → Prop
  | [], os, vs => os = [] ∧ vs = []
  | t :: ts, os, vs => ∃ o1 o2 v vs', os = o1 ++ o2 ∧ vs = v :: vs' ∧ Rep t o1 v ∧ Reps ts o2 vs'
end
end

/-- what may have happened to the heap: os may have been changed, all else stands; os' is owned then -/
structure Ext (os : List Addr) (H : Hp) (Z : Addr → Prop) (H' : Hp) (Z' : Addr → Prop) (os' : List Addr) : Prop where
  same : ∀ a o, H a = some o → a ∉ os → H' a = some o
  zz : ∀ a, Z a → Z' a
  zn : ∀ a, Z' a → Z a ∨ a ∈ os ∨ H a = none
  fr : ∀ a ∈ os', a ∈ os ∨ H a = none
structure Own (H : Hp) (Z : Addr → Prop) (os : List Addr) : Prop where
  nd : os.Nodup
  nz : ∀ a ∈ os, ¬ Z a
  tr : ∀ a ∈ os, ∃ o, H a = some o
def Zt (H : Hp) (Z : Addr → Prop) : Prop := ∀ a, Z a → ∃ o, H a = some o

section
variable {os os' os1 os2 t : List Addr} {H H' H1 H2 : Hp} {Z Z' Z1 Z2 : Addr → Prop}
theorem Ext.refl : Ext os H Z H Z os := ⟨fun _ _ h _ => h, fun _ h => h, fun _ h => .inl h, fun _ h => .inl h⟩
theorem Ext.trans (e : Ext os H Z H1 Z1 os1) (f : Ext os1 H1 Z1 H2 Z2 os2) : Ext os H Z H2 Z2 os2 := by
  have nin : ∀ a o, H a = some o → a ∉ os → a ∉ os1 := fun a o h n m => by
    rcases e.fr a m with q | q
    · exact n q
    · rw [q] at h; cases h
  have back : ∀ a, H1 a = none → a ∈ os ∨ H a = none := fun a h => by
    cases q : H a with
    | none => exact .inr rfl
    | some o =>
      refine .inl (Classical.byContradiction fun n => ?_)
      rw [e.same a o q n] at h; cases h
  refine ⟨fun a o h n => f.same a o (e.same a o h n) (nin a o h n), fun a h => f.zz a (e.zz a h), fun a h => ?_, fun a h => ?_⟩
  · rcases f.zn a h with q | q | q
    · exact e.zn a q
    · exact .inr (e.fr a q)
    · exact .inr (back a q)
  · rcases f.fr a h with q | q
    · exact e.fr a q
    · exact back a q
theorem Ext.sub (e : Ext os H Z H' Z' os1) (h : ∀ a ∈ os', a ∈ os1) : Ext os H Z H' Z' os' := ⟨e.same, e.zz, e.zn, fun a m => e.fr a (h a m)⟩
theorem Ext.wide (e : Ext os H Z H' Z' os') (h : ∀ a ∈ os, a ∈ os1) : Ext os1 H Z H' Z' os' := by
  refine ⟨fun a o q n => e.same a o q fun m => n (h a m), e.zz, fun a q => ?_, fun a m => ?_⟩
  · rcases e.zn a q with r | r | r
    · exact .inl r
    · exact .inr (.inl (h a r))
    · exact .inr (.inr r)
  · rcases e.fr a m with r | r
    · exact .inl (h a r)
    · exact .inr r
/-- what is held beside stays -/
theorem Ext.frame (e : Ext os H Z H' Z' os') (t : List Addr) : Ext (t ++ os) H Z H' Z' (t ++ os') := by
  refine ⟨fun a o q n => e.same a o q fun m => n (List.mem_append_right _ m), e.zz, fun a q => ?_, fun a m => ?_⟩
  · rcases e.zn a q with r | r | r
    · exact .inl r
    · exact .inr (.inl (List.mem_append_right _ r))
    · exact .inr (.inr r)
  · rcases List.mem_append.mp m with r | r
    · exact .inl (List.mem_append_left _ r)
    · rcases e.fr a r with q | q
      · exact .inl (List.mem_append_right _ q)
      · exact .inr q
/-- .. and stays owned -/
theorem Own.frame (o : Own H Z (t ++ os)) (e : Ext os H Z H' Z' os') (o' : Own H' Z' os') : Own H' Z' (t ++ os') := by
  obtain ⟨n1, n2, n3⟩ := List.nodup_append.mp o.nd
  have dis : ∀ a ∈ t, a ∉ os := fun a h m => n3 a h a m rfl
  have dis' : ∀ a ∈ t, a ∉ os' := fun a h m => by
    rcases e.fr a m with q | q
    · exact dis a h q
    · obtain ⟨u, hu⟩ := o.tr a (List.mem_append_left _ h)
      rw [q] at hu; cases hu
  refine ⟨List.nodup_append.mpr ⟨n1, o'.nd, fun a h b m z => dis' a h (z ▸ m)⟩, fun a h => ?_, fun a h => ?_⟩
  · rcases List.mem_append.mp h with h | h
    · intro z
      rcases e.zn a z with q | q | q
      · exact o.nz a (List.mem_append_left _ h) q
      · exact dis a h q
      · obtain ⟨u, hu⟩ := o.tr a (List.mem_append_left _ h)
        rw [q] at hu; cases hu
    · exact o'.nz a h
  · rcases List.mem_append.mp h with h | h
    · obtain ⟨u, hu⟩ := o.tr a (List.mem_append_left _ h)
      exact ⟨u, e.same a u hu (dis a h)⟩
    · exact o'.tr a h
theorem Own.left (o : Own H Z (t ++ os)) : Own H Z t := ⟨(List.nodup_append.mp o.nd).1, fun a h => o.nz a (List.mem_append_left _ h), fun a h => o.tr a (List.mem_append_left _ h)⟩
theorem Own.right (o : Own H Z (t ++ os)) : Own H Z os := ⟨(List.nodup_append.mp o.nd).2.1, fun a h => o.nz a (List.mem_append_right _ h), fun a h => o.tr a (List.mem_append_right _ h)⟩
theorem Own.perm (o : Own H Z os) (p : os.Perm os') : Own H Z os' := ⟨p.nodup_iff.mp o.nd, fun a h => o.nz a (p.mem_iff.mpr h), fun a h => o.tr a (p.mem_iff.mpr h)⟩
theorem Own.sublist (o : Own H Z os) (p : os'.Sublist os) : Own H Z os' := ⟨o.nd.sublist p, fun a h => o.nz a (p.subset h), fun a h => o.tr a (p.subset h)⟩
theorem Own.nil : Own H Z [] := ⟨List.nodup_nil, fun a h => absurd h (by simp), fun a h => absurd h (by simp)⟩
theorem Own.apart (o : Own H Z (t ++ os)) {a : Addr} (h : a ∈ t) : a ∉ os := fun m => (List.nodup_append.mp o.nd).2.2 a h a m rfl
theorem Ext.keepO (e : Ext os H Z H' Z' os') (o : Own H Z (t ++ os)) : ∀ a ∈ t, ∀ u, H a = some u → H' a = some u := fun a h u q => e.same a u q (o.apart h)
theorem Ext.keepZ (e : Ext os H Z H' Z' os') (o : Own H Z os) : ∀ a u, Z a → H a = some u → H' a = some u := fun a u z q => e.same a u q fun m => o.nz a m z
end

section
variable {K : PySem.W.Frag} {H H' : Hp} {Z Z' : Addr → Prop}
theorem Rd.keep {a : Addr} {u : HO} (h : Rd H a u) (k : ∀ o, H a = some o → H' a = some o) : Rd H' a u := by
  rcases h with h | ⟨o, h⟩
  · exact .inl (k _ h)
  · exact .inr ⟨o, k _ h⟩
theorem FzL.keep {a : Addr} {vs : List V} (h : FzL H Z a vs) (hz : ∀ a, Z a → Z' a) (hs : ∀ a u, Z a → H a = some u → H' a = some u) : FzL H' Z' a vs := by
  obtain ⟨z, r⟩ := h
  exact ⟨hz a z, Rd.keep r fun o q => hs a o z q⟩
theorem FzT.keep {a : Addr} {vs : List V} (h : FzT H Z a vs) (hz : ∀ a, Z a → Z' a) (hs : ∀ a u, Z a → H a = some u → H' a = some u) : FzT H' Z' a vs := by
  obtain ⟨z, r⟩ := h
  exact ⟨hz a z, hs a _ z r⟩
theorem FzL.sq {a : Addr} {vs : List V} (h : FzL H Z a vs) : SqL K H a vs := .inl h.2
theorem FzT.sq {a : Addr} {vs : List V} (h : FzT H Z a vs) : SqT K H a vs := .inl (.inl h.2)
theorem DicAt.imp {P P' : HO → Prop} {ks : List T} {vv : List V} (h : DicAt P ks vv) (hp : ∀ u, P u → P' u) : DicAt P' ks vv := by
  rcases h with ⟨kk, h1, h2, h3⟩ | ⟨kk, h1, h2, h3⟩
  · exact .inl ⟨kk, h1, h2, hp _ h3⟩
  · exact .inr ⟨kk, h1, h2, hp _ h3⟩

mutual
theorem Rep.keep (hz : ∀ a, Z a → Z' a) (hs : ∀ a u, Z a → H a = some u → H' a = some u) : ∀ (t : T) {os : List Addr} {v : V}, Rep K H Z t os v → (∀ a ∈ os, ∀ u, H a = some u → H' a = some u) → Rep K H' Z' t os v
  | .non, _, _, h, _ => by simp only [Rep] at h ⊢; exact h
  | .bl _, _, _, h, _ => by simp only [Rep] at h ⊢; exact h
  | .int _, _, _, h, _ => by simp only [Rep] at h ⊢; exact h
  | .str _, _, _, h, _ => by simp only [Rep] at h ⊢; exact h
  | .tup ts, os, v, h, k => by
    simp only [Rep] at h ⊢
    obtain ⟨a, vs, e, f, r⟩ := h
    exact ⟨a, vs, e, f.keep hz hs, Reps.keep hz hs ts r k⟩
  | .lst true ts, os, v, h, k => by
    simp only [Rep] at h ⊢
    obtain ⟨a, vs, e, os', e1, f, r⟩ := h
    subst e1
    exact ⟨a, vs, e, os', rfl, k a List.mem_cons_self _ f, Reps.keep hz hs ts r fun b m => k b (List.mem_cons_of_mem _ m)⟩
  | .lst false ts, os, v, h, k => by
    simp only [Rep] at h ⊢
    obtain ⟨a, vs, e, e1, f, r⟩ := h
    exact ⟨a, vs, e, e1, f.keep hz hs, Reps.keep hz hs ts r fun b m => absurd m (by simp)⟩
  | .dic true ks ts, os, v, h, k => by
    simp only [Rep] at h ⊢
    obtain ⟨a, vs, e, os', e1, f, r⟩ := h
    subst e1
    exact ⟨a, vs, e, os', rfl, f.imp fun u q => k a List.mem_cons_self _ q, Reps.keep hz hs ts r fun b m => k b (List.mem_cons_of_mem _ m)⟩
  | .dic false ks ts, os, v, h, k => by
    simp only [Rep] at h ⊢
    obtain ⟨a, vs, e, e1, f, r⟩ := h
    exact ⟨a, vs, e, e1, f.imp fun u q => ⟨hz a q.1, hs a u q.1 q.2⟩, Reps.keep hz hs ts r fun b m => absurd m (by simp)⟩
  | .scr ns, os, v, h, k => by
    simp only [Rep] at h ⊢
    obtain ⟨e1, a, e, f⟩ := h
    refine ⟨e1, a, e, ?_⟩
    rcases f with ⟨z, r⟩ | f
    · exact .inl ⟨hz a z, Rd.keep r fun o q => hs a o z q⟩
    · exact .inr f
theorem Reps.keep (hz : ∀ a, Z a → Z' a) (hs : ∀ a u, Z a → H a = some u → H' a = some u) : ∀ (ts : List T) {os : List Addr} {vs : List V}, Reps K H Z ts os vs → (∀ a ∈ os, ∀ u, H a = some u → H' a = some u) → Reps K H' Z' ts os vs
  | [], _, _, h, _ => by simp only [Reps] at h ⊢; exact h
  | t :: ts, os, vs, h, k => by
    simp only [Reps] at h ⊢
    obtain ⟨o1, o2, v, vs', e1, e2, r1, r2⟩ := h
    subst e1
    exact ⟨o1, o2, v, vs', rfl, e2, Rep.keep hz hs t r1 fun a m => k a (List.mem_append_left _ m), Reps.keep hz hs ts r2 fun a m => k a (List.mem_append_right _ m)⟩
end
/-- a value that is held beside a step -/
theorem Rep.ext {os os' t : List Addr} {x : T} {v : V} (h : Rep K H Z x t v) (e : Ext os H Z H' Z' os') (o : Own H Z (t ++ os)) : Rep K H' Z' x t v :=
  Rep.keep e.zz (e.keepZ o.right) x h (e.keepO o)
theorem Reps.ext {os os' t : List Addr} {x : List T} {v : List V} (h : Reps K H Z x t v) (e : Ext os H Z H' Z' os') (o : Own H Z (t ++ os)) : Reps K H' Z' x t v :=
  Reps.keep e.zz (e.keepZ o.right) x h (e.keepO o)
mutual
/-- what has nothing owned owns nothing -/
theorem Rep.nil : ∀ (t : T) {os : List Addr} {v : V}, Rep K H Z t os v → isF t = true → os = []
  | .non, _, _, h, _ => by simp only [Rep] at h; exact h.1
  | .bl _, _, _, h, _ => by simp only [Rep] at h; exact h.1
  | .int _, _, _, h, _ => by simp only [Rep] at h; exact h.1
  | .str _, _, _, h, _ => by simp only [Rep] at h; exact h.1
  | .tup ts, os, v, h, f => by
    simp only [Rep] at h
    simp only [isF] at f
    obtain ⟨a, vs, e, _, r⟩ := h
    exact Reps.nil ts r f
  | .lst true ts, os, v, h, f => by simp [isF] at f
  | .lst false ts, os, v, h, f => by
    simp only [Rep] at h
    obtain ⟨a, vs, e, e1, _⟩ := h
    exact e1
  | .dic true ks ts, os, v, h, f => by simp [isF] at f
  | .dic false ks ts, os, v, h, f => by
    simp only [Rep] at h
    obtain ⟨a, vs, e, e1, _⟩ := h
    exact e1
  | .scr _, _, _, h, _ => by simp only [Rep] at h; exact h.1
theorem Reps.nil : ∀ (ts : List T) {os : List Addr} {vs : List V}, Reps K H Z ts os vs → isFs ts = true → os = []
  | [], _, _, h, _ => by simp only [Reps] at h; exact h.1
  | t :: ts, os, vs, h, f => by
    simp only [Reps] at h
    simp only [isFs, Bool.and_eq_true] at f
    obtain ⟨o1, o2, v, vs', e1, e2, r1, r2⟩ := h
    rw [e1, Rep.nil t r1 f.1, Reps.nil ts r2 f.2]
    rfl
end
mutual
/-- what is owned is tracked -/
theorem Rep.tr : ∀ (t : T) {os : List Addr} {v : V}, Rep K H Z t os v → ∀ a ∈ os, ∃ o, H a = some o
  | .non, _, _, h, a, m => by simp only [Rep] at h; rw [h.1] at m; cases m
  | .bl _, _, _, h, a, m => by simp only [Rep] at h; rw [h.1] at m; cases m
  | .int _, _, _, h, a, m => by simp only [Rep] at h; rw [h.1] at m; cases m
  | .str _, _, _, h, a, m => by simp only [Rep] at h; rw [h.1] at m; cases m
  | .tup ts, os, v, h, a, m => by
    simp only [Rep] at h
    obtain ⟨_, vs, e, _, r⟩ := h
    exact Reps.tr ts r a m
  | .lst true ts, os, v, h, a, m => by
    simp only [Rep] at h
    obtain ⟨b, vs, e, os', e1, f, r⟩ := h
    rw [e1] at m
    rcases List.mem_cons.mp m with rfl | m
    · exact ⟨_, f⟩
    · exact Reps.tr ts r a m
  | .lst false ts, os, v, h, a, m => by
    simp only [Rep] at h
    obtain ⟨_, vs, e, e1, _⟩ := h
    rw [e1] at m; cases m
  | .dic true ks ts, os, v, h, a, m => by
    simp only [Rep] at h
    obtain ⟨b, vs, e, os', e1, f, r⟩ := h
    rw [e1] at m
    rcases List.mem_cons.mp m with rfl | m
    · rcases f with ⟨_, _, _, q⟩ | ⟨_, _, _, q⟩ <;> exact ⟨_, q⟩
    · exact Reps.tr ts r a m
  | .dic false ks ts, os, v, h, a, m => by
    simp only [Rep] at h
    obtain ⟨_, vs, e, e1, _⟩ := h
    rw [e1] at m; cases m
  | .scr _, _, _, h, a, m => by simp only [Rep] at h; rw [h.1] at m; cases m
theorem Reps.tr : ∀ (ts : List T) {os : List Addr} {vs : List V}, Reps K H Z ts os vs → ∀ a ∈ os, ∃ o, H a = some o
  | [], _, _, h, a, m => by simp only [Reps] at h; rw [h.1] at m; cases m
  | t :: ts, os, vs, h, a, m => by
    simp only [Reps] at h
    obtain ⟨o1, o2, v, vs', e1, e2, r1, r2⟩ := h
    rw [e1] at m
    rcases List.mem_append.mp m with m | m
    · exact Rep.tr t r1 a m
    · exact Reps.tr ts r2 a m
end
theorem k1_fz {t : T} {k : Key} (h : k1 t = some k) : fz t = t := by
  cases t <;> simp [k1] at h <;> rfl
theorem k1s_fz : ∀ {ts : List T} {ks : List Key}, k1s ts = some ks → fzs ts = ts
  | [], _, _ => rfl
  | t :: ts, ks, h => by
    simp only [k1s] at h
    cases q : k1 t with
    | none => rw [q] at h; cases h
    | some k =>
      cases r : k1s ts with
      | none => rw [q, r] at h; cases h
      | some ks' => rw [PL.fzs, k1_fz q, k1s_fz r]
theorem kT_fz {t : T} {k : List Key} (h : kT t = some k) : fz t = t := by
  cases t with
  | tup xs => rw [PL.fz, k1s_fz (ks := k) h]
  | _ => cases h
theorem allK1_fz : ∀ {ts : List T} {ks : List Key}, allK1 ts ks → fzs ts = ts
  | [], _, _ => rfl
  | t :: ts, [], h => by cases h
  | t :: ts, k :: ks, h => by rw [PL.fzs, k1_fz h.1, allK1_fz h.2]
theorem allKT_fz : ∀ {ts : List T} {ks : List (List Key)}, allKT ts ks → fzs ts = ts
  | [], _, _ => rfl
  | t :: ts, [], h => by cases h
  | t :: ts, k :: ks, h => by rw [PL.fzs, kT_fz h.1, allKT_fz h.2]
theorem DicAt.fzs {P : HO → Prop} {ks : List T} {vv : List V} (h : DicAt P ks vv) : PL.fzs ks = ks := by
  rcases h with ⟨kk, h1, _⟩ | ⟨kk, h1, _⟩
  · exact allK1_fz h1
  · exact allKT_fz h1
mutual
/-- all that is owned is frozen -/
theorem Rep.fz (hz : ∀ a, Z a → Z' a) : ∀ (t : T) {os : List Addr} {v : V}, Rep K H Z t os v → (∀ a ∈ os, Z' a) → Rep K H Z' (fz t) [] v
  | .non, _, _, h, _ => by simp only [Rep, PL.fz] at h ⊢; exact ⟨trivial, h.2⟩
  | .bl _, _, _, h, _ => by simp only [Rep, PL.fz] at h ⊢; exact ⟨trivial, h.2⟩
  | .int _, _, _, h, _ => by simp only [Rep, PL.fz] at h ⊢; exact ⟨trivial, h.2⟩
  | .str _, _, _, h, _ => by simp only [Rep, PL.fz] at h ⊢; exact ⟨trivial, h.2⟩
  | .tup ts, os, v, h, k => by
    simp only [Rep, PL.fz] at h ⊢
    obtain ⟨a, vs, e, f, r⟩ := h
    exact ⟨a, vs, e, f.keep hz fun _ _ _ q => q, Reps.fz hz ts r k⟩
  | .lst true ts, os, v, h, k => by
    simp only [Rep, PL.fz] at h ⊢
    obtain ⟨a, vs, e, os', e1, f, r⟩ := h
    subst e1
    exact ⟨a, vs, e, trivial, ⟨k a List.mem_cons_self, .inl f⟩, Reps.fz hz ts r fun b m => k b (List.mem_cons_of_mem _ m)⟩
  | .lst false ts, os, v, h, k => by
    simp only [Rep, PL.fz] at h ⊢
    obtain ⟨a, vs, e, e1, f, r⟩ := h
    exact ⟨a, vs, e, trivial, f.keep hz fun _ _ _ q => q, Reps.fz hz ts r fun b m => absurd m (by simp)⟩
  | .dic true ks ts, os, v, h, k => by
    simp only [Rep, PL.fz] at h ⊢
    obtain ⟨a, vs, e, os', e1, f, r⟩ := h
    subst e1
    rw [f.fzs]
    exact ⟨a, vs, e, trivial, f.imp fun u q => ⟨k a List.mem_cons_self, q⟩, Reps.fz hz ts r fun b m => k b (List.mem_cons_of_mem _ m)⟩
  | .dic false ks ts, os, v, h, k => by
    simp only [Rep, PL.fz] at h ⊢
    obtain ⟨a, vs, e, e1, f, r⟩ := h
    rw [f.fzs]
    exact ⟨a, vs, e, trivial, f.imp fun u q => ⟨hz a q.1, q.2⟩, Reps.fz hz ts r fun b m => absurd m (by simp)⟩
  | .scr ns, os, v, h, k => by
    simp only [Rep, PL.fz] at h ⊢
    obtain ⟨e1, a, e, f⟩ := h
    refine ⟨trivial, a, e, ?_⟩
    rcases f with ⟨z, r⟩ | f
    · exact .inl ⟨hz a z, r⟩
    · exact .inr f
theorem Reps.fz (hz : ∀ a, Z a → Z' a) : ∀ (ts : List T) {os : List Addr} {vs : List V}, Reps K H Z ts os vs → (∀ a ∈ os, Z' a) → Reps K H Z' (fzs ts) [] vs
  | [], _, _, h, _ => by simp only [Reps, fzs] at h ⊢; exact ⟨trivial, h.2⟩
  | t :: ts, os, vs, h, k => by
    simp only [Reps, fzs] at h ⊢
    obtain ⟨o1, o2, v, vs', e1, e2, r1, r2⟩ := h
    subst e1
    exact ⟨[], [], v, vs', rfl, e2, Rep.fz hz t r1 fun a m => k a (List.mem_append_left _ m), Reps.fz hz ts r2 fun a m => k a (List.mem_append_right _ m)⟩
end

/-! ### the state of a body -/
structure Ok (K : PySem.W.Frag) (H : Hp) (Z : Addr → Prop) (Γ : Env) (Os : List (List Addr)) (σ : St) : Prop where
  ls : σ.length = Γ.length
  lo : Os.length = Γ.length
  get : ∀ i t, Γ[i]? = some (some t) → ∃ v, σ[i]? = some (some v) ∧ Rep K H Z t (Os.getD i []) v
  own : Own H Z Os.flatten
  zt : Zt H Z
/-- what stands behind a step that gives t -/
structure Res (K : PySem.W.Frag) (os0 : List Addr) (H : Hp) (Z : Addr → Prop) (σ : St) (t : T) (Γ' : Env) (v : V) (H' : Hp) (Z' : Addr → Prop) (Os' : List (List Addr)) (os : List Addr) : Prop where
  ok : Ok K H' Z' Γ' Os' σ
  rep : Rep K H' Z' t os v
  own : Own H' Z' (os ++ Os'.flatten)
  ext : Ext os0 H Z H' Z' (os ++ Os'.flatten)
/-- .. a list of values -/
structure Ress (K : PySem.W.Frag) (os0 : List Addr) (H : Hp) (Z : Addr → Prop) (σ : St) (ts : List T) (Γ' : Env) (vs : List V) (H' : Hp) (Z' : Addr → Prop) (Os' : List (List Addr)) (os : List Addr) : Prop where
  ok : Ok K H' Z' Γ' Os' σ
  rep : Reps K H' Z' ts os vs
  own : Own H' Z' (os ++ Os'.flatten)
  ext : Ext os0 H Z H' Z' (os ++ Os'.flatten)
/-- a new value, nothing else touched -/
structure Nw (K : PySem.W.Frag) (H : Hp) (Z : Addr → Prop) (z : T) (v : V) (H' : Hp) (Z' : Addr → Prop) (os : List Addr) : Prop where
  rep : Rep K H' Z' z os v
  own : Own H' Z' os
  ext : Ext [] H Z H' Z' os
  zt : Zt H' Z'
theorem Ext.zt0 {os os' : List Addr} (e : Ext os H Z H' Z' os') : True := trivial
theorem Own.ext0 {os t : List Addr} (o : Own H Z t) (e : Ext [] H Z H' Z' os) (o' : Own H' Z' os) : Own H' Z' (os ++ t) := by
  have q := Own.frame (t := t) (os := []) (by simpa using o) e o'
  exact q.perm List.perm_append_comm
theorem Ok.ext0 {Γ : Env} {Os : List (List Addr)} {σ : St} {os : List Addr} (ok : Ok K H Z Γ Os σ) (e : Ext [] H Z H' Z' os) (zt : Zt H' Z') : Ok K H' Z' Γ Os σ := by
  refine ⟨ok.ls, ok.lo, fun i t h => ?_, ?_, zt⟩
  · obtain ⟨v, h1, h2⟩ := ok.get i t h
    exact ⟨v, h1, h2.keep e.zz (fun a u _ q => e.same a u q (by simp)) t fun a _ u q => e.same a u q (by simp)⟩
  · refine ⟨ok.own.nd, fun a m z => ?_, fun a m => ?_⟩
    · rcases e.zn a z with q | q | q
      · exact ok.own.nz a m q
      · cases q
      · obtain ⟨u, hu⟩ := ok.own.tr a m
        rw [q] at hu; cases hu
    · obtain ⟨u, hu⟩ := ok.own.tr a m
      exact ⟨u, e.same a u hu (by simp)⟩
/-- a new value on top of what stands -/
theorem Nw.res {Γ : Env} {Os : List (List Addr)} {σ : St} {os0 os : List Addr} {H0 : Hp} {Z0 : Addr → Prop} {z : T} {v : V} (n : Nw K H Z z v H' Z' os) (ok : Ok K H Z Γ Os σ) (e : Ext os0 H0 Z0 H Z Os.flatten) : Res K os0 H0 Z0 σ z Γ v H' Z' Os os := by
  refine ⟨ok.ext0 n.ext n.zt, n.rep, ok.own.ext0 n.ext n.own, e.trans ?_⟩
  have q := n.ext.frame Os.flatten
  rw [List.append_nil] at q
  exact q.sub fun a m => by
    rcases List.mem_append.mp m with m | m
    · exact List.mem_append_right _ m
    · exact List.mem_append_left _ m
theorem Nw.scalar {z : T} {v : V} (h : Rep K H Z z [] v) (zt : Zt H Z) : Nw K H Z z v H Z [] := ⟨h, Own.nil, Ext.refl, zt⟩
/-- a new frozen object -/
theorem upd_zt {p : Addr} {o : HO} (zt : Zt H Z) : Zt (upd H p o) Z := fun a z => by
  obtain ⟨u, hu⟩ := zt a z
  by_cases h : a = p
  · exact ⟨o, by rw [h, upd_same]⟩
  · exact ⟨u, by rw [upd_ne h]; exact hu⟩
theorem upd_keep {p : Addr} {o : HO} (hp : H p = none) : ∀ a u, H a = some u → upd H p o a = some u := fun a u q => by
  rw [upd_ne (ne_of_none q hp)]; exact q
theorem new_fz {p : Addr} {o : HO} (hp : H p = none) (zt : Zt H Z) : Ext [] H Z (upd H p o) (fun a => Z a ∨ a = p) [] ∧ Zt (upd H p o) (fun a => Z a ∨ a = p) := by
  refine ⟨⟨fun a u q _ => upd_keep hp a u q, fun a z => .inl z, fun a z => ?_, fun a m => absurd m (by simp)⟩, fun a z => ?_⟩
  · rcases z with z | rfl
    · exact .inl z
    · exact .inr (.inr hp)
  · rcases z with z | rfl
    · exact upd_zt zt a z
    · exact ⟨o, upd_same⟩
theorem new_own {p : Addr} {o : HO} (hp : H p = none) (zt : Zt H Z) : Ext [] H Z (upd H p o) Z [p] ∧ Own (upd H p o) Z [p] := by
  refine ⟨⟨fun a u q _ => upd_keep hp a u q, fun a z => z, fun a z => .inl z, fun a m => ?_⟩, ⟨by simp, fun a m z => ?_, fun a m => ?_⟩⟩
  · rw [List.mem_singleton.mp m]; exact .inr hp
  · rw [List.mem_singleton.mp m] at z
    obtain ⟨u, hu⟩ := zt p z
    rw [hp] at hu; cases hu
  · rw [List.mem_singleton.mp m]; exact ⟨o, upd_same⟩
/-- a new tuple of frozen things, a new list of them -/
theorem Nw.tup {ts : List T} {vs : List V} {p : Addr} (h : Reps K H Z ts [] vs) (zt : Zt H Z) (hp : H p = none) : Nw K H Z (.tup ts) (.ref p) (upd H p (.tup vs)) (fun a => Z a ∨ a = p) [] := by
  obtain ⟨e, z⟩ := new_fz (o := .tup vs) hp zt
  refine ⟨?_, Own.nil, e, z⟩
  simp only [Rep]
  exact ⟨p, vs, rfl, ⟨.inr rfl, upd_same⟩, h.keep e.zz (fun a u _ q => upd_keep hp a u q) ts fun a m => absurd m (by simp)⟩
theorem Nw.lst {ts : List T} {vs : List V} {p : Addr} (h : Reps K H Z ts [] vs) (zt : Zt H Z) (hp : H p = none) : Nw K H Z (.lst true ts) (.ref p) (upd H p (.lst vs)) Z [p] := by
  obtain ⟨e, o⟩ := new_own (o := .lst vs) hp zt
  refine ⟨?_, o, e, upd_zt zt⟩
  simp only [Rep]
  exact ⟨p, vs, rfl, [], rfl, upd_same, h.keep (fun _ z => z) (fun a u _ q => upd_keep hp a u q) ts fun a m => absurd m (by simp)⟩
end

/-! ### readings by plain values -/
abbrev ME := Env → (T → Env → Prop) → Prop
abbrev MT := Env → (Bool → Env → Prop) → Prop
abbrev MA := Env → (List T → Env → Prop) → Prop
def tV (K : PySem.W.Frag) (w : ME) : TE := fun σ H Q => ∃ Γ Z Os Qt, Ok K H Z Γ Os σ ∧ w Γ Qt ∧
  ∀ t Γ' v H' Z' Os' os, Qt t Γ' → Res K Os.flatten H Z σ t Γ' v H' Z' Os' os → Q v H'
def tQ (K : PySem.W.Frag) (w : MT) : TT := fun σ H Q => ∃ Γ Z Os Qt, Ok K H Z Γ Os σ ∧ w Γ Qt ∧
  ∀ b Γ' H' Z' Os', Qt b Γ' → Ok K H' Z' Γ' Os' σ → Ext Os.flatten H Z H' Z' Os'.flatten → Q b H'
def tA (K : PySem.W.Frag) (w : MA) : TA := fun σ H Q => ∃ Γ Z Os Qt, Ok K H Z Γ Os σ ∧ w Γ Qt ∧
  ∀ ts Γ' vs H' Z' Os' os, Qt ts Γ' → Ress K Os.flatten H Z σ ts Γ' vs H' Z' Os' os → Q vs H'
theorem _root_.L2.PE.imp {X : Cx} {e : Expr} {t t' : TE} (h : PE X e t) (i : ∀ σ H Q, t' σ H Q → t σ H Q) : PE X e t' := ⟨fun pins s σ H Q I q => h.run pins s σ H Q I (i _ _ _ q)⟩
theorem _root_.L2.PT.imp {X : Cx} {e : Expr} {t t' : TT} (h : PT X e t) (i : ∀ σ H Q, t' σ H Q → t σ H Q) : PT X e t' := ⟨fun pins s σ H Q I q => h.run pins s σ H Q I (i _ _ _ q)⟩
theorem _root_.L2.PA.imp {X : Cx} {e : List Expr} {t t' : TA} (h : PA X e t) (i : ∀ σ H Q, t' σ H Q → t σ H Q) : PA X e t' := ⟨fun pos pins s σ H Q I q => h.run pos pins s σ H Q I (i _ _ _ q)⟩
theorem _root_.L2.PS.imp {X : Cx} {e : Stmt} {t t' : TS} (h : PS X e t) (i : ∀ D σ H, t' D σ H → t D σ H) : PS X e t' := ⟨fun pins s σ H D I q => h.run pins s σ H D I (i _ _ _ q)⟩
theorem _root_.L2.PSs.imp {X : Cx} {e : List Stmt} {t t' : TS} (h : PSs X e t) (i : ∀ D σ H, t' D σ H → t D σ H) : PSs X e t' := ⟨fun pins s σ H D I q => h.run pins s σ H D I (i _ _ _ q)⟩
theorem Res.exto {K : PySem.W.Frag} {os0 : List Addr} {H : Hp} {Z : Addr → Prop} {σ : St} {t : T} {Γ' : Env} {v : V} {H' : Hp} {Z' : Addr → Prop} {Os' : List (List Addr)} {os : List Addr}
    (r : Res K os0 H Z σ t Γ' v H' Z' Os' os) : Ext os0 H Z H' Z' Os'.flatten := r.ext.sub fun a m => List.mem_append_right _ m
end PL

end
section
set_option maxHeartbeats 4000000
/-! PLc: the operations on values keep what PLa says of them. -/
namespace PL
open PySem PySem.Spec L2
open PyProof.Rows hiding St

section
variable {X : Cx}
/-- an operation of two values, by plain values -/
def r2T (K : PySem.W.Frag) (p : T → T → (T → Prop) → Prop) : R2 := fun x y H Q => ∃ t1 t2 Z o1 o2 Qz, Zt H Z ∧ Rep K H Z t1 o1 x ∧ Rep K H Z t2 o2 y ∧ p t1 t2 Qz ∧
  ∀ z v H' Z' os', Qz z → Nw K H Z z v H' Z' os' → Q v H'
/-- a comparison -/
def r2B (K : PySem.W.Frag) (p : T → T → (Bool → Prop) → Prop) : R2 := fun x y H Q => ∃ t1 t2 Z o1 o2 Qz, Zt H Z ∧ Rep K H Z t1 o1 x ∧ Rep K H Z t2 o2 y ∧ p t1 t2 Qz ∧ ∀ c, Qz c → Q (.bl c) H
/-- a built-in of one value -/
def r1T (K : PySem.W.Frag) (p : T → (T → Prop) → Prop) : List V → Hp → VK → Prop := fun vs H Q => ∃ x t Z o Qz, vs = [x] ∧ Zt H Z ∧ Rep K H Z t o x ∧ p t Qz ∧
  ∀ z v H' Z' os', Qz z → Nw K H Z z v H' Z' os' → Q v H'

section
variable {K : PySem.W.Frag} {H H' : Hp} {Z Z' : Addr → Prop} {os : List Addr} {v : V}
theorem Rep.int_inv {i : Int} (h : Rep K H Z (.int i) os v) : v = .int i := by simp only [Rep] at h; exact h.2
theorem Rep.bl_inv {b : Bool} (h : Rep K H Z (.bl b) os v) : v = .bl b := by simp only [Rep] at h; exact h.2
theorem Rep.str_inv {x : Str} (h : Rep K H Z (.str x) os v) : v = .str x := by simp only [Rep] at h; exact h.2
theorem Rep.non_inv (h : Rep K H Z .non os v) : v = .non := by simp only [Rep] at h; exact h.2
theorem Rep.tup_inv {ts : List T} (h : Rep K H Z (.tup ts) os v) : ∃ a vs, v = .ref a ∧ FzT H Z a vs ∧ Reps K H Z ts os vs := by simp only [Rep] at h; exact h
theorem rep_int {i : Int} : Rep K H Z (.int i) [] (.int i) := by simp [Rep]
theorem rep_bl {b : Bool} : Rep K H Z (.bl b) [] (.bl b) := by simp [Rep]
theorem rep_str {x : Str} : Rep K H Z (.str x) [] (.str x) := by simp [Rep]
theorem rep_non : Rep K H Z .non [] .non := by simp [Rep]
/-- a list of frozen things -/
theorem Rep.lst_inv {o : Bool} {ts : List T} (h : Rep K H Z (.lst o ts) os v) (f : isFs ts = true) : ∃ a vs, v = .ref a ∧ Rd H a (.lst vs) ∧ Reps K H Z ts [] vs := by
  cases o with
  | true =>
    simp only [Rep] at h
    obtain ⟨a, vs, e, os', e1, q, r⟩ := h
    have := Reps.nil ts r f
    subst this
    exact ⟨a, vs, e, .inl q, r⟩
  | false =>
    simp only [Rep] at h
    obtain ⟨a, vs, e, e1, q, r⟩ := h
    exact ⟨a, vs, e, q.2, r⟩
/-- .. of any things -/
theorem Rep.lst_any {o : Bool} {ts : List T} (h : Rep K H Z (.lst o ts) os v) : ∃ a vs os', v = .ref a ∧ Rd H a (.lst vs) ∧ Reps K H Z ts os' vs := by
  cases o with
  | true =>
    simp only [Rep] at h
    obtain ⟨a, vs, e, os', e1, q, r⟩ := h
    exact ⟨a, vs, os', e, .inl q, r⟩
  | false =>
    simp only [Rep] at h
    obtain ⟨a, vs, e, e1, q, r⟩ := h
    exact ⟨a, vs, [], e, q.2, r⟩
theorem Rep.tup_f {ts : List T} (h : Rep K H Z (.tup ts) os v) (f : isFs ts = true) : ∃ a vs, v = .ref a ∧ FzT H Z a vs ∧ Reps K H Z ts [] vs := by
  obtain ⟨a, vs, e, q, r⟩ := h.tup_inv
  have := Reps.nil ts r f
  subst this
  exact ⟨a, vs, e, q, r⟩
theorem Reps.length : ∀ {ts : List T} {os : List Addr} {vs : List V}, Reps K H Z ts os vs → ts.length = vs.length
  | [], _, _, h => by simp only [Reps] at h; rw [h.2]; rfl
  | t :: ts, _, _, h => by
    simp only [Reps] at h
    obtain ⟨o1, o2, v, vs', _, e2, _, r2⟩ := h
    rw [e2, List.length_cons, List.length_cons, Reps.length r2]
theorem Reps.append : ∀ {ts us : List T} {o1 o2 : List Addr} {vs ws : List V}, Reps K H Z ts o1 vs → Reps K H Z us o2 ws → Reps K H Z (ts ++ us) (o1 ++ o2) (vs ++ ws)
  | [], us, o1, o2, vs, ws, h, h' => by
    simp only [Reps] at h
    rw [h.1, h.2]
    exact h'
  | t :: ts, us, o1, o2, vs, ws, h, h' => by
    simp only [Reps] at h
    obtain ⟨p1, p2, v, vs', e1, e2, r1, r2⟩ := h
    subst e1 e2
    rw [List.cons_append]
    simp only [Reps]
    exact ⟨p1, p2 ++ o2, v, vs' ++ ws, List.append_assoc .., rfl, r1, Reps.append r2 h'⟩
theorem Reps.take : ∀ {ts : List T} {vs : List V} (n : Nat), Reps K H Z ts [] vs → Reps K H Z (ts.take n) [] (vs.take n)
  | [], vs, n, h => by
    simp only [Reps] at h
    rw [h.2]; simp [Reps]
  | t :: ts, vs, 0, h => by simp [Reps]
  | t :: ts, vs, n + 1, h => by
    simp only [Reps] at h
    obtain ⟨p1, p2, v, vs', e1, e2, r1, r2⟩ := h
    obtain ⟨rfl, rfl⟩ := List.append_eq_nil_iff.mp e1.symm
    subst e2
    rw [List.take_succ_cons, List.take_succ_cons]
    simp only [Reps]
    exact ⟨[], [], v, _, rfl, rfl, r1, Reps.take n r2⟩
theorem Reps.drop : ∀ {ts : List T} {vs : List V} (n : Nat), Reps K H Z ts [] vs → Reps K H Z (ts.drop n) [] (vs.drop n)
  | [], vs, n, h => by
    simp only [Reps] at h
    rw [h.2]; simp [Reps]
  | t :: ts, vs, 0, h => h
  | t :: ts, vs, n + 1, h => by
    simp only [Reps] at h
    obtain ⟨p1, p2, v, vs', e1, e2, r1, r2⟩ := h
    obtain ⟨rfl, rfl⟩ := List.append_eq_nil_iff.mp e1.symm
    subst e2
    rw [List.drop_succ_cons, List.drop_succ_cons]
    exact Reps.drop n r2
theorem Reps.get : ∀ {ts : List T} {os : List Addr} {vs : List V} {i : Nat} {t : T}, Reps K H Z ts os vs → ts[i]? = some t → ∃ v o, vs[i]? = some v ∧ Rep K H Z t o v ∧ ∀ a ∈ o, a ∈ os
  | [], _, _, _, _, h, e => by simp at e
  | t :: ts, os, vs, 0, u, h, e => by
    simp only [Reps] at h
    obtain ⟨p1, p2, v, vs', e1, e2, r1, r2⟩ := h
    simp at e; subst e
    exact ⟨v, p1, by rw [e2]; rfl, r1, fun a m => by rw [e1]; exact List.mem_append_left _ m⟩
  | t :: ts, os, vs, i + 1, u, h, e => by
    simp only [Reps] at h
    obtain ⟨p1, p2, v, vs', e1, e2, r1, r2⟩ := h
    obtain ⟨w, o, h1, h2, h3⟩ := Reps.get (i := i) r2 (by simpa using e)
    exact ⟨w, o, by rw [e2]; simpa using h1, h2, fun a m => by rw [e1]; exact List.mem_append_right _ (h3 a m)⟩
theorem Reps.rep : ∀ (k : Nat) {ts : List T} {vs : List V}, Reps K H Z ts [] vs → Reps K H Z (List.replicate k ts).flatten [] (List.replicate k vs).flatten
  | 0, ts, vs, h => by simp [Reps]
  | k + 1, ts, vs, h => by
    rw [List.replicate_succ, List.replicate_succ, List.flatten_cons, List.flatten_cons]
    exact Reps.append h (Reps.rep k h)
theorem Reps.ints : ∀ (ns : List Int), Reps K H Z (ns.map T.int) [] (ns.map V.int)
  | [] => by simp [Reps]
  | n :: ns => by
    rw [List.map_cons, List.map_cons]
    simp only [Reps]
    exact ⟨[], [], .int n, _, rfl, rfl, rep_int, Reps.ints ns⟩
end

/-! ### lists that may be read, by their objects -/
theorem Inv.rdL {pins : List (Addr × Obj)} {σ : L2.St} {H : Hp} {s : Shared} {l : Addr} {xs : List V} (I : Inv X pins σ H s) (h : Rd H l (.lst xs)) :
    xs.length ≤ sizeLine ∧ ∃ (its : List Value) (n : Nat), Vals xs its ∧ xs.length = its.length ∧ s.heap.get? l = some { cls := .type "list", data := .seq its.toArray n } := by
  obtain ⟨z, its, n, r, e⟩ := h.ok I.hok
  exact ⟨z, its, n, r, r.length, e⟩
theorem op_catR : OpR X (binaryOp .Add) (fun x y H Q => ∃ l b xs zs, x = .ref l ∧ y = .ref b ∧ Rd H l (.lst xs) ∧ Rd H b (.lst zs) ∧ xs.length + zs.length ≤ sizeLine ∧ ∀ p, H p = none → Q (.ref p) (upd H p (.lst (xs ++ zs)))) := by
  intro pins s σ H x y v u Q I rx ry h
  obtain ⟨l, b, xs, zs, rfl, rfl, hH, hB, hz, q⟩ := h
  cases rx
  cases ry
  obtain ⟨z, its, n, r, hl, e⟩ := Inv.rdL I hH
  obtain ⟨z2, its2, n2, r2, hl2, e2⟩ := Inv.rdL I hB
  refine PySem.P.add_list e e2 ?_ (by rw [List.size_toArray, List.size_toArray]; omega)
  have ea : its.toArray ++ its2.toArray = (its ++ its2).toArray := by simp
  rw [ea]
  exact ⟨.ref _, _, I.lnew (t' := s.toks) (r.append r2) (by rw [List.length_append]; omega), rfl, q _ I.fresh⟩

theorem opT_add : OpR X (binaryOp .Add) (r2T X.K (opP .add)) := by
  intro pins s σ H x y v u Q I rx ry h
  obtain ⟨t1, t2, Z, o1, o2, Qz, zt, p1, p2, hp, k⟩ := h
  cases t1 with
  | int i =>
    cases t2 with
    | int j =>
      cases p1.int_inv; cases p2.int_inv
      exact op_add pins s σ H _ _ v u Q I rx ry ⟨i, j, rfl, rfl, k _ _ _ _ _ hp (.scalar rep_int zt)⟩
    | _ => exact False.elim hp
  | str i =>
    cases t2 with
    | str j =>
      cases p1.str_inv; cases p2.str_inv
      exact op_add_str pins s σ H _ _ v u Q I rx ry ⟨i, j, rfl, rfl, hp.1, k _ _ _ _ _ hp.2 (.scalar rep_str zt)⟩
    | _ => exact False.elim hp
  | tup xs =>
    cases t2 with
    | tup ys =>
      obtain ⟨f1, f2, hz, hq⟩ := hp
      obtain ⟨a, vs, rfl, q1, r1⟩ := p1.tup_f f1
      obtain ⟨b, ws, rfl, q2, r2⟩ := p2.tup_f f2
      refine op_catA pins s σ H _ _ v u Q I rx ry ⟨a, b, vs, ws, rfl, rfl, q1.sq, q2.sq, by rw [← r1.length, ← r2.length]; exact hz, fun e => ?_, fun _ e => ?_, fun _ _ p np => ?_⟩
      · subst e
        refine k _ _ _ _ _ hq (.scalar ?_ zt)
        have : xs = [] := List.eq_nil_of_length_eq_zero r1.length
        subst this
        simp only [Rep]
        exact ⟨b, ws, rfl, q2, r2⟩
      · subst e
        refine k _ _ _ _ _ hq (.scalar ?_ zt)
        have : ys = [] := List.eq_nil_of_length_eq_zero r2.length
        subst this
        rw [List.append_nil]
        simp only [Rep]
        exact ⟨a, vs, rfl, q1, r1⟩
      · exact k _ _ _ _ _ hq (.tup (r1.append r2) zt np)
    | _ => exact False.elim hp
  | lst o xs =>
    cases t2 with
    | lst o' ys =>
      obtain ⟨f1, f2, hz, hq⟩ := hp
      obtain ⟨a, vs, rfl, q1, r1⟩ := p1.lst_inv f1
      obtain ⟨b, ws, rfl, q2, r2⟩ := p2.lst_inv f2
      refine op_catR pins s σ H _ _ v u Q I rx ry ⟨a, b, vs, ws, rfl, rfl, q1, q2, by rw [← r1.length, ← r2.length]; exact hz, fun p np => ?_⟩
      exact k _ _ _ _ _ hq (.lst (r1.append r2) zt np)
    | _ => exact False.elim hp
  | _ => exact False.elim hp
/-- two ints -/
theorem opT_int {f : Value → Value → Sem Value} {C : Int → Int → Prop} {g : Int → Int → Int} (o : Op) (h0 : OpR X f (rI C fun i j => .int (g i j)))
    (hp : ∀ t1 t2 Q, opP o t1 t2 Q → ∃ i j, t1 = .int i ∧ t2 = .int j ∧ C i j ∧ Q (.int (g i j))) : OpR X f (r2T X.K (opP o)) := by
  intro pins s σ H x y v u Q I rx ry h
  obtain ⟨t1, t2, Z, o1, o2, Qz, zt, p1, p2, hq, k⟩ := h
  obtain ⟨i, j, rfl, rfl, hc, hq⟩ := hp t1 t2 Qz hq
  cases p1.int_inv; cases p2.int_inv
  exact h0 pins s σ H _ _ v u Q I rx ry ⟨i, j, rfl, rfl, hc, k _ _ _ _ _ hq (.scalar rep_int zt)⟩
theorem opR_true {f : Value → Value → Sem Value} {g : Int → Int → V} (h : OpR X f (rI0 g)) : OpR X f (rI (fun _ _ => True) g) := fun pins s σ H x y v u Q I rx ry ⟨i, j, e1, e2, _, q⟩ => h pins s σ H x y v u Q I rx ry ⟨i, j, e1, e2, q⟩
theorem opT_sub : OpR X (binaryOp .Sub) (r2T X.K (opP .sub)) := opT_int .sub (opR_true op_sub) fun t1 t2 Q h => by
  cases t1 <;> cases t2 <;> first | exact False.elim h | exact ⟨_, _, rfl, rfl, trivial, h⟩
theorem opT_fdiv : OpR X (binaryOp .FloorDiv) (r2T X.K (opP .fdiv)) := opT_int .fdiv op_fdiv fun t1 t2 Q h => by
  cases t1 <;> cases t2 <;> first | exact False.elim h | exact ⟨_, _, rfl, rfl, h.1, h.2⟩
theorem opT_mod : OpR X (binaryOp .Mod) (r2T X.K (opP .mod)) := opT_int .mod op_mod fun t1 t2 Q h => by
  cases t1 <;> cases t2 <;> first | exact False.elim h | exact ⟨_, _, rfl, rfl, h.1, h.2⟩
theorem opT_pow : OpR X (binaryOp .Pow) (r2T X.K (opP .pow)) := opT_int .pow op_pow fun t1 t2 Q h => by
  cases t1 <;> cases t2 <;> first | exact False.elim h | exact ⟨_, _, rfl, rfl, h.1, h.2⟩
theorem opT_shl : OpR X (binaryOp .LShift) (r2T X.K (opP .shl)) := opT_int .shl op_shl fun t1 t2 Q h => by
  cases t1 <;> cases t2 <;> first | exact False.elim h | exact ⟨_, _, rfl, rfl, h.1, h.2⟩
theorem opT_band : OpR X (binaryOp .BitAnd) (r2T X.K (opP .band)) := opT_int .band (opR_true op_and) fun t1 t2 Q h => by
  cases t1 <;> cases t2 <;> first | exact False.elim h | exact ⟨_, _, rfl, rfl, trivial, h⟩
theorem opT_bor : OpR X (binaryOp .BitOr) (r2T X.K (opP .bor)) := opT_int .bor (opR_true op_or) fun t1 t2 Q h => by
  cases t1 <;> cases t2 <;> first | exact False.elim h | exact ⟨_, _, rfl, rfl, trivial, h⟩
theorem op_repR : OpR X (binaryOp .Mult) (fun x y H Q => ∃ l k xs, x = .ref l ∧ y = .int k ∧ Rd H l (.lst xs) ∧ -(2 ^ 63) ≤ k ∧ k < 2 ^ 63 ∧ xs.length * k.toNat ≤ sizeLine ∧
    ∀ p, H p = none → Q (.ref p) (upd H p (.lst (List.replicate k.toNat xs).flatten))) := by
  intro pins s σ H x y v u Q I rx ry h
  obtain ⟨l, k, xs, rfl, rfl, hH, h1, h2, hz, q⟩ := h
  cases rx
  obtain ⟨t, rfl⟩ := ry
  obtain ⟨z, its, n, r, hl, e⟩ := Inv.rdL I hH
  have hlen : its.toArray.size * k.toNat ≤ sizeLine := by rw [List.size_toArray, ← hl]; exact hz
  have hcap : ¬ its.toArray.size * k.toNat > (2 ^ 63 - 1) / 8 := by
    have : (sizeLine : Nat) ≤ (2 ^ 63 - 1) / 8 := by decide
    omega
  have hfit : ¬ (!Builtin.List.listFitsIndex k) = true := by
    rw [fitsIndex_both h1 h2]
    exact Bool.false_ne_true
  have hlong : ¬ Builtin.List.listTooLong (its.toArray.size * k.toNat) = true := by
    rw [notLongL hlen]
    exact Bool.false_ne_true
  have hnew : List.foldl (fun x1 x2 => x1 ++ x2) #[] (List.replicate (if its.toArray.isEmpty = true then 0 else k.toNat) its.toArray) = (List.replicate k.toNat its).flatten.toArray := by
    have f0 : ∀ m : Nat, List.foldl (fun x1 x2 => x1 ++ x2) #[] (List.replicate m its.toArray) = (List.replicate m its).flatten.toArray := fun m => by
      have := foldl_rep its m []
      rw [List.nil_append] at this
      exact this
    rw [f0]
    cases its with
    | nil => simp
    | cons a r' => rw [if_neg (by simp)]
  refine wpAny_binaryOp_repeat_ref (T := "list") (U := "int") (by decide) ⟨_, e, rfl⟩ (fun s' => typeIs_int s' k t) noFill_list_mul F.fills_int_mul F.slot_int_rmul repeat_list F.slot_int_index.lookup
    (call_meets F.slot_int_rmul (typeIs_int s k t) F.entry_int_rmul (F.args_int_rmul_2 _ _) (int___rmul___int_list k t l its.toArray n)
      ⟨e, rfl, ⟨_, e, rfl⟩, call_meets F.slot_list_mul ⟨_, e, rfl⟩ F.entry_list_mul (F.args_list_mul_2 _ _) (AutoListH.list___mul___list_int_3 l its.toArray n k t hfit hcap hlong) ⟨e, ?_⟩⟩)
  rw [hnew]
  exact ⟨.ref _, _, I.lnew (t' := s.toks) (r.rep k.toNat) (by rw [PyProof.Rows.lm_len_rep_flat, Nat.mul_comm]; exact hz), rfl, q _ I.fresh⟩
theorem opT_mul : OpR X (binaryOp .Mult) (r2T X.K (opP .mul)) := by
  intro pins s σ H x y v u Q I rx ry h
  obtain ⟨t1, t2, Z, o1, o2, Qz, zt, p1, p2, hp, k⟩ := h
  cases t1 with
  | int i =>
    cases t2 with
    | int j =>
      cases p1.int_inv; cases p2.int_inv
      obtain ⟨hc, hq⟩ := hp
      rcases hc with hc | hc
      · exact op_mul pins s σ H _ _ v u Q I rx ry ⟨i, j, rfl, rfl, hc, k _ _ _ _ _ hq (.scalar rep_int zt)⟩
      · exact op_mulW pins s σ H _ _ v u Q I rx ry ⟨i, j, rfl, rfl, hc, k _ _ _ _ _ hq (.scalar rep_int zt)⟩
    | _ => exact False.elim hp
  | lst o xs =>
    cases t2 with
    | int j =>
      obtain ⟨f1, h1, h2, hz, hq⟩ := hp
      obtain ⟨a, vs, rfl, q1, r1⟩ := p1.lst_inv f1
      cases p2.int_inv
      refine op_repR pins s σ H _ _ v u Q I rx ry ⟨a, j, vs, rfl, rfl, q1, h1, h2, by rw [← r1.length]; exact hz, fun p np => ?_⟩
      exact k _ _ _ _ _ hq (.lst (r1.rep j.toNat) zt np)
    | _ => exact False.elim hp
  | _ => exact False.elim hp
/-- the operators of the text -/
def opA : Op → Operator
  | .add => .Add | .sub => .Sub | .mul => .Mult | .fdiv => .FloorDiv | .mod => .Mod | .pow => .Pow | .shl => .LShift | .band => .BitAnd | .bor => .BitOr
theorem opT : ∀ o : Op, OpR X (binaryOp (opA o)) (r2T X.K (opP o))
  | .add => opT_add | .sub => opT_sub | .mul => opT_mul | .fdiv => opT_fdiv | .mod => opT_mod | .pow => opT_pow | .shl => opT_shl | .band => opT_band | .bor => opT_bor

/-! ### in place, on names that hold ints or texts -/
theorem augT (o : Op) : OpR X (inplaceOp (opA o)) (r2T X.K (augP o)) := by
  intro pins s σ H x y v u Q I rx ry h
  obtain ⟨t1, t2, Z, o1, o2, Qz, zt, p1, p2, hp, k⟩ := h
  cases o <;> cases t1 <;> cases t2 <;> first | exact False.elim hp | skip
  · cases p1.int_inv; cases p2.int_inv
    exact iop_add pins s σ H _ _ v u Q I rx ry ⟨_, _, rfl, rfl, k _ _ _ _ _ hp (.scalar rep_int zt)⟩
  · cases p1.str_inv; cases p2.str_inv
    exact iop_add_str pins s σ H _ _ v u Q I rx ry ⟨_, _, rfl, rfl, hp.1, k _ _ _ _ _ hp.2 (.scalar rep_str zt)⟩
  · cases p1.int_inv; cases p2.int_inv
    exact iop_sub pins s σ H _ _ v u Q I rx ry ⟨_, _, rfl, rfl, k _ _ _ _ _ hp (.scalar rep_int zt)⟩
  · cases p1.int_inv; cases p2.int_inv
    exact iop_mul pins s σ H _ _ v u Q I rx ry ⟨_, _, rfl, rfl, hp.1, k _ _ _ _ _ hp.2 (.scalar rep_int zt)⟩
  · cases p1.int_inv; cases p2.int_inv
    exact iop_fdiv pins s σ H _ _ v u Q I rx ry ⟨_, _, rfl, rfl, hp.1, k _ _ _ _ _ hp.2 (.scalar rep_int zt)⟩
  · cases p1.int_inv; cases p2.int_inv
    exact iop_mod pins s σ H _ _ v u Q I rx ry ⟨_, _, rfl, rfl, hp.1, k _ _ _ _ _ hp.2 (.scalar rep_int zt)⟩

/-! ### comparisons -/
mutual
theorem dp_of {H : Hp} {Z : Addr → Prop} : ∀ (t : T) {os : List Addr} {v : V}, Rep X.K H Z t os v → (data t).canLay0 = true → Dp X.K H v (data t)
  | .non, _, _, h, _ => by rw [h.non_inv]; exact .non
  | .bl b, _, _, h, _ => by rw [h.bl_inv]; exact .bl b
  | .int i, _, _, h, _ => by rw [h.int_inv]; exact .int i
  | .str x, _, _, h, _ => by rw [h.str_inv]; exact .str x
  | .tup ts, _, _, h, c => by
    obtain ⟨a, vs, rfl, q, r⟩ := h.tup_inv
    simp only [data] at c ⊢
    simp only [PyData.canLay0] at c
    exact .tup q.sq (dps_of ts r c)
  | .lst o ts, _, _, h, c => by
    obtain ⟨a, vs, os', rfl, q, r⟩ := h.lst_any
    simp only [data] at c ⊢
    simp only [PyData.canLay0] at c
    exact .lst (.inl q) (dps_of ts r c)
  | .dic _ _ _, _, _, _, c => by simp [data, PyData.canLay0] at c
  | .scr _, _, _, _, c => by simp [data, PyData.canLay0] at c
theorem dps_of {H : Hp} {Z : Addr → Prop} : ∀ (ts : List T) {os : List Addr} {vs : List V}, Reps X.K H Z ts os vs → PyData.canLayAll0 (datas ts) = true → DpAll X.K H vs (datas ts)
  | [], _, _, h, _ => by simp only [Reps] at h; rw [h.2]; exact .nil
  | t :: ts, _, _, h, c => by
    simp only [Reps] at h
    obtain ⟨o1, o2, v, vs', _, e2, r1, r2⟩ := h
    simp only [datas, PyData.canLayAll0, Bool.and_eq_true] at c
    rw [e2]
    simp only [datas]
    exact .cons (dp_of t r1 c.1) (dps_of ts r2 c.2)
end
theorem dp_shp {H : Hp} {Z : Addr → Prop} {t : T} {os : List Addr} {v : V} (h : Rep X.K H Z t os v) (c : shp t = true) : Dp X.K H v (data t) := dp_of t h (SeqAt.canLay_of_shaped c)
def rlA : Rl → CmpOp
  | .eq => .Eq | .ne => .NotEq | .lt => .Lt | .le => .LtE | .gt => .Gt | .ge => .GtE | .inn => .In | .nin => .NotIn | .is => .Is | .isn => .IsNot
/-- two data that may be ordered -/
theorem ord_inv {a b : T} (h : ordable a b = true) : shp a = true ∧ shp b = true ∧ PySem.W.alike (data a) (data b) = true ∧ data a ≠ .none := by
  unfold ordable at h
  simp only [Bool.and_eq_true, Bool.not_eq_true'] at h
  refine ⟨h.1, h.2.1, h.2.2.1, ?_⟩
  cases a <;> simp [data] at h ⊢
theorem data_room {A : Around} {a b : T} (h : shp a = true) (hu : A.units + 64 < cLine) : A.units + min (data a).depth (data b).depth < cLine := SeqAt.room_of_shaped h hu
/-- .. by the rule of an order -/
theorem opB_ord {op : CmpOp} {f : T → T → Bool} (hu : X.A.units + 64 < cLine)
    (rule : ∀ (s : Shared) (E : Value → Shared → Prop) (v u : Value) (a b : T) (as bs : List Addr) (Q : Value → Shared → Prop), Reads s.heap v (data a) as → Reads s.heap u (data b) bs → PySem.W.alike (data a) (data b) = true → data a ≠ .none →
      X.A.units + min (data a).depth (data b).depth < cLine → Q (.bool (f a b)) s → wpAny (model X.prog X.w) X.A (compareOp op v u) Q E s) :
    ∀ (pins : List (Addr × Obj)) (s : Shared) (σ : L2.St) (H : Hp) (x y : V) (v u : Value) (Q : VK), Inv X pins σ H s → RelV x v → RelV y u → ∀ (t1 t2 : T) (Z : Addr → Prop) (o1 o2 : List Addr), Rep X.K H Z t1 o1 x → Rep X.K H Z t2 o2 y →
      ordable t1 t2 = true → Q (.bl (f t1 t2)) H → wpAny (model X.prog X.w) X.A (compareOp op v u) (EP X pins σ Q) X.xe s := by
  intro pins s σ H x y v u Q I rx ry t1 t2 Z o1 o2 p1 p2 ho q
  obtain ⟨s1, s2, al, nn⟩ := ord_inv ho
  obtain ⟨as, r1⟩ := Dp.reads I _ x v (dp_shp p1 s1) rx
  obtain ⟨bs, r2⟩ := Dp.reads I _ y u (dp_shp p2 s2) ry
  exact rule s _ v u t1 t2 as bs _ r1 r2 al nn (data_room s1 hu) ⟨.bl _, H, I, rfl, q⟩
theorem opB_lt (hu : X.A.units + 64 < cLine) : OpR X (compareOp .Lt) (r2B X.K (rlP .lt)) := by
  intro pins s σ H x y v u Q I rx ry h
  obtain ⟨t1, t2, Z, o1, o2, Qz, zt, p1, p2, hp, k⟩ := h
  have gen : (ordable t1 t2 = true ∧ Qz (ltT t1 t2)) → wpAny (model X.prog X.w) X.A (compareOp .Lt v u) (EP X pins σ Q) X.xe s := fun hq =>
    opB_ord hu (fun s E v u a b as bs Q r1 r2 al nn hu q => PySem.W.lt_data r1 r2 al nn hu q) pins s σ H x y v u Q I rx ry t1 t2 Z o1 o2 p1 p2 hq.1 (k _ hq.2)
  cases t1 with
  | int i =>
    cases t2 with
    | int j =>
      cases p1.int_inv; cases p2.int_inv
      exact op_lt pins s σ H _ _ v u Q I rx ry ⟨i, j, rfl, rfl, k _ hp⟩
    | _ => exact gen hp
  | _ => exact gen hp
theorem opB_gt (hu : X.A.units + 64 < cLine) : OpR X (compareOp .Gt) (r2B X.K (rlP .gt)) := by
  intro pins s σ H x y v u Q I rx ry h
  obtain ⟨t1, t2, Z, o1, o2, Qz, zt, p1, p2, hp, k⟩ := h
  have gen : (ordable t1 t2 = true ∧ Qz (ltT t2 t1)) → wpAny (model X.prog X.w) X.A (compareOp .Gt v u) (EP X pins σ Q) X.xe s := fun hq =>
    opB_ord (f := fun a b => ltT b a) hu (fun s E v u a b as bs Q r1 r2 al nn hu q => PySem.W.gt_data r1 r2 al nn hu q) pins s σ H x y v u Q I rx ry t1 t2 Z o1 o2 p1 p2 hq.1 (k _ hq.2)
  cases t1 with
  | int i =>
    cases t2 with
    | int j =>
      cases p1.int_inv; cases p2.int_inv
      exact op_gt pins s σ H _ _ v u Q I rx ry ⟨i, j, rfl, rfl, k _ hp⟩
    | _ => exact gen hp
  | _ => exact gen hp
theorem opB_le (hu : X.A.units + 64 < cLine) : OpR X (compareOp .LtE) (r2B X.K (rlP .le)) := by
  intro pins s σ H x y v u Q I rx ry h
  obtain ⟨t1, t2, Z, o1, o2, Qz, zt, p1, p2, hp, k⟩ := h
  have gen : (ordable t1 t2 = true ∧ Qz (!ltT t2 t1)) → wpAny (model X.prog X.w) X.A (compareOp .LtE v u) (EP X pins σ Q) X.xe s := fun hq =>
    opB_ord (f := fun a b => !ltT b a) hu (fun s E v u a b as bs Q r1 r2 al nn hu q => PySem.W.le_data r1 r2 al nn hu q) pins s σ H x y v u Q I rx ry t1 t2 Z o1 o2 p1 p2 hq.1 (k _ hq.2)
  cases t1 with
  | int i =>
    cases t2 with
    | int j =>
      cases p1.int_inv; cases p2.int_inv
      exact op_le pins s σ H _ _ v u Q I rx ry ⟨i, j, rfl, rfl, k _ hp⟩
    | _ => exact gen hp
  | _ => exact gen hp
theorem opB_ge (hu : X.A.units + 64 < cLine) : OpR X (compareOp .GtE) (r2B X.K (rlP .ge)) := by
  intro pins s σ H x y v u Q I rx ry h
  obtain ⟨t1, t2, Z, o1, o2, Qz, zt, p1, p2, hp, k⟩ := h
  have gen : (ordable t1 t2 = true ∧ Qz (!ltT t1 t2)) → wpAny (model X.prog X.w) X.A (compareOp .GtE v u) (EP X pins σ Q) X.xe s := fun hq =>
    opB_ord (f := fun a b => !ltT a b) hu (fun s E v u a b as bs Q r1 r2 al nn hu q => PySem.W.ge_data r1 r2 al nn hu q) pins s σ H x y v u Q I rx ry t1 t2 Z o1 o2 p1 p2 hq.1 (k _ hq.2)
  cases t1 with
  | int i =>
    cases t2 with
    | int j =>
      cases p1.int_inv; cases p2.int_inv
      exact op_ge pins s σ H _ _ v u Q I rx ry ⟨i, j, rfl, rfl, k _ hp⟩
    | _ => exact gen hp
  | _ => exact gen hp
theorem opB_eq (hu : X.A.units + 64 < cLine) : OpR X (compareOp .Eq) (r2B X.K (rlP .eq)) := by
  intro pins s σ H x y v u Q I rx ry h
  obtain ⟨t1, t2, Z, o1, o2, Qz, zt, p1, p2, ⟨s1, s2, hq⟩, k⟩ := h
  exact op_eqD hu pins s σ H _ _ v u Q I rx ry ⟨_, _, dp_shp p1 s1, dp_shp p2 s2, s1, s2, k _ hq⟩
theorem opB_ne (hu : X.A.units + 64 < cLine) : OpR X (compareOp .NotEq) (r2B X.K (rlP .ne)) := by
  intro pins s σ H x y v u Q I rx ry h
  obtain ⟨t1, t2, Z, o1, o2, Qz, zt, p1, p2, ⟨s1, s2, hq⟩, k⟩ := h
  exact op_neD hu pins s σ H _ _ v u Q I rx ry ⟨_, _, dp_shp p1 s1, dp_shp p2 s2, s1, s2, k _ hq⟩
theorem V.non_iff {H : Hp} {Z : Addr → Prop} {t : T} {os : List Addr} {v : V} (h : Rep X.K H Z t os v) : decide (v = .non) = isNon t := by
  cases t with
  | non => rw [h.non_inv]; rfl
  | bl b => rw [h.bl_inv]; rfl
  | int i => rw [h.int_inv]; rfl
  | str x => rw [h.str_inv]; rfl
  | tup ts => obtain ⟨a, vs, e, _⟩ := h.tup_inv; rw [e]; rfl
  | lst o ts => obtain ⟨a, vs, os', e, _⟩ := h.lst_any; rw [e]; rfl
  | dic o ks ts => simp only [Rep] at h; obtain ⟨a, vs, e, _⟩ := h; rw [e]; rfl
  | scr ns => simp only [Rep] at h; obtain ⟨_, a, e, _⟩ := h; rw [e]; rfl
theorem opB_is : OpR X (compareOp .Is) (r2B X.K (rlP .is)) := by
  intro pins s σ H x y v u Q I rx ry h
  obtain ⟨t1, t2, Z, o1, o2, Qz, zt, p1, p2, hp, k⟩ := h
  cases t2 with
  | non =>
    cases p2.non_inv
    have hp' : Qz (isNon t1) := by cases t1 <;> exact hp
    rw [← V.non_iff p1] at hp'
    exact op_isN pins s σ H _ _ v u Q I rx ry ⟨rfl, k _ hp'⟩
  | bl b =>
    cases t1 with
    | bl a =>
      cases p1.bl_inv; cases p2.bl_inv
      have hp' : Qz (a == b) := hp
      exact op_isBl pins s σ H _ _ v u Q I rx ry ⟨a, b, rfl, rfl, k _ (by rw [Bool.beq_eq_decide_eq] at hp'; exact hp')⟩
    | _ => exact False.elim hp
  | _ => cases t1 <;> exact False.elim hp
theorem opB_isn : OpR X (compareOp .IsNot) (r2B X.K (rlP .isn)) := by
  intro pins s σ H x y v u Q I rx ry h
  obtain ⟨t1, t2, Z, o1, o2, Qz, zt, p1, p2, hp, k⟩ := h
  cases t2 with
  | non =>
    cases p2.non_inv
    have hp' : Qz (!isNon t1) := by cases t1 <;> exact hp
    rw [← V.non_iff p1] at hp'
    exact op_notN pins s σ H _ _ v u Q I rx ry ⟨rfl, k _ hp'⟩
  | bl b =>
    cases t1 with
    | bl a =>
      cases p1.bl_inv; cases p2.bl_inv
      have hp' : Qz (!(a == b)) := hp
      exact op_notBl pins s σ H _ _ v u Q I rx ry ⟨a, b, rfl, rfl, k _ (by rw [Bool.beq_eq_decide_eq] at hp'; exact hp')⟩
    | _ => exact False.elim hp
  | _ => cases t1 <;> exact False.elim hp
end
end PL

end
section
set_option maxHeartbeats 4000000
/-! PLd: dicts, in, built-ins, items, slices, methods. -/
namespace PL
open PySem PySem.Spec L2
open PyProof.Rows hiding St

/-! ### keys -/
theorem eqT_k1 {x t : T} {a b : Key} (h1 : k1 x = some a) (h2 : k1 t = some b) : eqT x t = decide (a = b) := by
  cases x <;> simp only [k1, Option.some.injEq, reduceCtorEq] at h1 <;> subst h1 <;> cases t <;> simp only [k1, Option.some.injEq, reduceCtorEq] at h2 <;> subst h2
  · simp [eqT, data, PyData.eqv, Bool.beq_eq_decide_eq]
  · simp [eqT, data, PyData.eqv]
  · simp [eqT, data, PyData.eqv]
  · simp [eqT, data, PyData.eqv, Bool.beq_eq_decide_eq]
theorem eqv_k1s : ∀ {xs ys : List T} {a b : List Key}, k1s xs = some a → k1s ys = some b → PyData.eqvAll (datas xs) (datas ys) = decide (a = b)
  | [], [], a, b, h1, h2 => by
    simp only [k1s, Option.some.injEq] at h1 h2
    subst h1 h2
    simp [datas, PyData.eqvAll]
  | [], y :: ys, a, b, h1, h2 => by
    simp only [k1s, Option.some.injEq] at h1
    subst h1
    simp only [k1s, Option.bind_eq_some_iff, Option.map_eq_some_iff] at h2
    obtain ⟨k, _, ks, _, rfl⟩ := h2
    simp [datas, PyData.eqvAll]
  | x :: xs, [], a, b, h1, h2 => by
    simp only [k1s, Option.some.injEq] at h2
    subst h2
    simp only [k1s, Option.bind_eq_some_iff, Option.map_eq_some_iff] at h1
    obtain ⟨k, _, ks, _, rfl⟩ := h1
    simp [datas, PyData.eqvAll]
  | x :: xs, y :: ys, a, b, h1, h2 => by
    simp only [k1s, Option.bind_eq_some_iff, Option.map_eq_some_iff] at h1 h2
    obtain ⟨k, e1, ks, e2, rfl⟩ := h1
    obtain ⟨j, f1, js, f2, rfl⟩ := h2
    have q1 : PyData.eqv (data x) (data y) = decide (k = j) := eqT_k1 e1 f1
    have q2 := eqv_k1s e2 f2
    simp only [datas, PyData.eqvAll, q1, q2]
    by_cases h : k = j <;> by_cases h' : ks = js <;> simp [h, h']
theorem eqT_kT {x t : T} {a b : List Key} (h1 : kT x = some a) (h2 : kT t = some b) : eqT x t = decide (a = b) := by
  cases x <;> simp only [kT, reduceCtorEq] at h1
  cases t <;> simp only [kT, reduceCtorEq] at h2
  simp only [eqT, data, PyData.eqv]
  exact eqv_k1s h1 h2
theorem keyIx_nil (k : T) : keyIx k [] = none := rfl
theorem keyIx_cons (k x : T) (ks : List T) : keyIx k (x :: ks) = if eqT x k = true then some 0 else (keyIx k ks).map (· + 1) := by
  unfold keyIx
  rw [List.findIdx?_cons]
theorem val_k1 {κ : Type} [DecidableEq κ] {t : T} {k : κ} (f : T → Option κ) (he : ∀ {x a}, f x = some a → eqT x t = decide (a = k)) : ∀ {ks : List T} {kk : List κ} {vv : List V},
    (ks.map f = kk.map some) → kk.length = vv.length → valV (kk.zip vv) k = (keyIx t ks).bind fun j => vv[j]?
  | [], kk, vv, h, l => by
    have : kk = [] := by simpa using h.symm
    subst this
    rfl
  | x :: ks, [], vv, h, l => by simp at h
  | x :: ks, a :: kk, [], h, l => by simp at l
  | x :: ks, a :: kk, v :: vv, h, l => by
    simp only [List.map_cons, List.cons.injEq] at h
    have ih := val_k1 f he (ks := ks) (kk := kk) (vv := vv) h.2 (by simpa using l)
    have e := he h.1
    rw [keyIx_cons, e]
    by_cases ha : a = k
    · rw [List.zip_cons_cons, valV_pos (by exact ha), if_pos (by simp [ha])]
      rfl
    · rw [List.zip_cons_cons, valV_neg (by exact ha), if_neg (by simp [ha]), ih]
      cases keyIx t ks <;> simp
theorem allK1_map : ∀ {ks : List T} {kk : List Key}, allK1 ks kk → ks.map k1 = kk.map some
  | [], [], _ => rfl
  | [], _ :: _, h => by cases h
  | _ :: _, [], h => by cases h
  | x :: ks, a :: kk, h => by rw [List.map_cons, List.map_cons, h.1, allK1_map h.2]
theorem allKT_map : ∀ {ks : List T} {kk : List (List Key)}, allKT ks kk → ks.map kT = kk.map some
  | [], [], _ => rfl
  | [], _ :: _, h => by cases h
  | _ :: _, [], h => by cases h
  | x :: ks, a :: kk, h => by rw [List.map_cons, List.map_cons, h.1, allKT_map h.2]
theorem allK1_snoc : ∀ {ks : List T} {kk : List Key} {t : T} {k : Key}, allK1 ks kk → k1 t = some k → allK1 (ks ++ [t]) (kk ++ [k])
  | [], [], _, _, _, h => ⟨h, trivial⟩
  | [], _ :: _, _, _, h, _ => by cases h
  | _ :: _, [], _, _, h, _ => by cases h
  | x :: ks, a :: kk, _, _, h, h' => ⟨h.1, allK1_snoc h.2 h'⟩
theorem allKT_snoc : ∀ {ks : List T} {kk : List (List Key)} {t : T} {k : List Key}, allKT ks kk → kT t = some k → allKT (ks ++ [t]) (kk ++ [k])
  | [], [], _, _, _, h => ⟨h, trivial⟩
  | [], _ :: _, _, _, h, _ => by cases h
  | _ :: _, [], _, _, h, _ => by cases h
  | x :: ks, a :: kk, _, _, h, h' => ⟨h.1, allKT_snoc h.2 h'⟩
theorem allK1_len : ∀ {ks : List T} {kk : List Key}, allK1 ks kk → ks.length = kk.length
  | [], [], _ => rfl
  | [], _ :: _, h => by cases h
  | _ :: _, [], h => by cases h
  | x :: ks, a :: kk, h => by rw [List.length_cons, List.length_cons, allK1_len h.2]
theorem allKT_len : ∀ {ks : List T} {kk : List (List Key)}, allKT ks kk → ks.length = kk.length
  | [], [], _ => rfl
  | [], _ :: _, h => by cases h
  | _ :: _, [], h => by cases h
  | x :: ks, a :: kk, h => by rw [List.length_cons, List.length_cons, allKT_len h.2]
/-- which kinds of keys meet -/
theorem fit_cases {t : T} {ks : List T} (h : keyFit t ks = true) : (∃ k, k1 t = some k ∧ ∀ x ∈ ks, kT x = none) ∨ (∃ k, kT t = some k ∧ ∀ x ∈ ks, k1 x = none) := by
  have n1 : ∀ x : T, (k1 x).isSome = true → kT x = none := fun x q => by cases x <;> simp [k1, kT] at q ⊢
  have n2 : ∀ x : T, (kT x).isSome = true → k1 x = none := fun x q => by cases x <;> simp [k1, kT] at q ⊢
  unfold keyFit at h
  simp only [Bool.or_eq_true, Bool.and_eq_true, List.all_eq_true] at h
  rcases h with ⟨h1, h2⟩ | ⟨h1, h2⟩
  · obtain ⟨k, hk⟩ := Option.isSome_iff_exists.mp h1
    exact .inl ⟨k, hk, fun x hx => n1 x (h2 x hx)⟩
  · obtain ⟨k, hk⟩ := Option.isSome_iff_exists.mp h1
    exact .inr ⟨k, hk, fun x hx => n2 x (h2 x hx)⟩
theorem allK1_none : ∀ {ks : List T} {kk : List Key}, allK1 ks kk → (∀ x ∈ ks, k1 x = none) → ks = [] ∧ kk = []
  | [], [], _, _ => ⟨rfl, rfl⟩
  | [], _ :: _, h, _ => by cases h
  | _ :: _, [], h, _ => by cases h
  | x :: ks, a :: kk, h, n => by
    have := n x List.mem_cons_self
    rw [h.1] at this; cases this
theorem allKT_none : ∀ {ks : List T} {kk : List (List Key)}, allKT ks kk → (∀ x ∈ ks, kT x = none) → ks = [] ∧ kk = []
  | [], [], _, _ => ⟨rfl, rfl⟩
  | [], _ :: _, h, _ => by cases h
  | _ :: _, [], h, _ => by cases h
  | x :: ks, a :: kk, h, n => by
    have := n x List.mem_cons_self
    rw [h.1] at this; cases this

section
variable {X : Cx} {pins : List (Addr × Obj)} {σ : L2.St} {H : Hp} {s : Shared}
/-- the empty dict is of both kinds -/
theorem Inv.swapK {a : Addr} (I : Inv X pins σ H s) (h : H a = some (.dT [])) : Inv X pins σ (upd H a (.dK [])) s := by
  obtain ⟨z, hd, xs, r, o, es, ep, e, ex, hdat, hes, nd⟩ := I.hok a _ h
  have : xs = [] := by cases r; rfl
  subst this
  have hes' : es = #[] := by
    have : es.toList = [] := by simpa using hes
    simpa using this
  subst hes'
  refine I.write (x := a) (e := a) (h' := s.heap) (t' := s.toks) (by rw [h]; trivial) (.inl rfl) (fun b u _ q => q) ⟨o, e⟩ ⟨z, hd, [], .nil, o, #[], ep, e, ex, hdat, ?_, ?_, List.nodup_nil⟩
  · intro j hj; simp at hj
  · exact .nil
theorem Inv.swapT {a : Addr} (I : Inv X pins σ H s) (h : H a = some (.dK [])) : Inv X pins σ (upd H a (.dT [])) s := by
  obtain ⟨z, hd, vs, r, o, es, ep, e, ex, hdat, hk, pr, nd⟩ := I.hok a _ h
  have : vs = [] := by cases r; rfl
  subst this
  have hes' : es.toList = [] := by
    cases q : es.toList with
    | nil => rfl
    | cons a b => rw [q] at pr; cases pr
  refine I.write (x := a) (e := a) (h' := s.heap) (t' := s.toks) (by rw [h]; trivial) (.inl rfl) (fun b u _ q => q) ⟨o, e⟩ ⟨z, hd, [], .nil, o, es, ep, e, ex, hdat, by simpa using hes', List.nodup_nil⟩
theorem upd_back {a : Addr} {o u : HO} (h : H a = some u) : upd (upd H a o) a u = H := by
  rw [upd_upd]
  funext b
  unfold upd
  split
  · rename_i e; rw [e, h]
  · rfl
/-- what stands at a key -/
theorem Rep.key1 {Z : Addr → Prop} {t : T} {os : List Addr} {v : V} {k : Key} (h : Rep X.K H Z t os v) (e : k1 t = some k) : v = kV k := by
  cases t <;> simp only [k1, Option.some.injEq, reduceCtorEq] at e
  · subst e; exact h.int_inv
  · subst e; exact h.str_inv
theorem Reps.keys {Z : Addr → Prop} : ∀ {ts : List T} {os : List Addr} {vs : List V} {ks : List Key}, Reps X.K H Z ts os vs → k1s ts = some ks → vs = ks.map kV
  | [], _, _, ks, h, e => by
    simp only [k1s, Option.some.injEq] at e
    simp only [Reps] at h
    rw [h.2, ← e]; rfl
  | t :: ts, _, _, ks, h, e => by
    simp only [k1s, Option.bind_eq_some_iff, Option.map_eq_some_iff] at e
    obtain ⟨k, e1, kk, e2, rfl⟩ := e
    simp only [Reps] at h
    obtain ⟨o1, o2, v, vs', _, q, r1, r2⟩ := h
    rw [q, r1.key1 e1, Reps.keys r2 e2]; rfl
theorem Rep.keyT {Z : Addr → Prop} {t : T} {os : List Addr} {v : V} {k : List Key} (h : Rep X.K H Z t os v) (e : kT t = some k) : ∃ b, v = .ref b ∧ H b = some (.tup (k.map kV)) := by
  cases t <;> simp only [kT, reduceCtorEq] at e
  obtain ⟨a, vs, rfl, q, r⟩ := h.tup_inv
  rw [Reps.keys r e] at q
  exact ⟨a, rfl, q.2⟩
/-- a dict that may be read -/
theorem Rep.dic_inv {Z : Addr → Prop} {o : Bool} {ks ts : List T} {os : List Addr} {v : V} (h : Rep X.K H Z (.dic o ks ts) os v) : ∃ a vs os', v = .ref a ∧ DicAt (fun u => H a = some u) ks vs ∧ Reps X.K H Z ts os' vs := by
  cases o with
  | true =>
    simp only [Rep] at h
    obtain ⟨a, vs, e, os', _, d, r⟩ := h
    exact ⟨a, vs, os', e, d, r⟩
  | false =>
    simp only [Rep] at h
    obtain ⟨a, vs, e, _, d, r⟩ := h
    exact ⟨a, vs, [], e, d.imp fun u q => q.2, r⟩
/-- a look-up: the state, what is found; then back -/
theorem dic_look {Z : Addr → Prop} {a : Addr} {ks : List T} {vv : List V} {t : T} {os : List Addr} {y : V} (I : Inv X pins σ H s) (d : DicAt (fun u => H a = some u) ks vv) (r : Rep X.K H Z t os y) (f : keyFit t ks = true) :
    ∃ H1, Inv X pins σ H1 s ∧ DGet H1 a y ((keyIx t ks).bind fun j => vv[j]?) ∧ ∀ s', Inv X pins σ H1 s' → Inv X pins σ H s' := by
  rcases fit_cases f with ⟨k, hk, n⟩ | ⟨k, hk, n⟩
  · have ey := r.key1 hk
    subst ey
    rcases d with ⟨kk, h1, h2, h3⟩ | ⟨kk, h1, h2, h3⟩
    · refine ⟨H, I, ?_, fun _ q => q⟩
      rw [← val_k1 k1 (fun e => eqT_k1 e hk) (allK1_map h1) h2]
      exact DGet.k h3
    · obtain ⟨rfl, rfl⟩ := allKT_none h1 n
      refine ⟨upd H a (.dK []), Inv.swapK I h3, ?_, fun s' q => ?_⟩
      · exact DGet.k (kvs := []) upd_same
      · have := Inv.swapT q upd_same
        rw [upd_back (show H a = some (.dT []) from h3)] at this
        exact this
  · obtain ⟨b, rfl, hb⟩ := r.keyT hk
    rcases d with ⟨kk, h1, h2, h3⟩ | ⟨kk, h1, h2, h3⟩
    · obtain ⟨rfl, rfl⟩ := allK1_none h1 n
      refine ⟨upd H a (.dT []), Inv.swapT I h3, ?_, fun s' q => ?_⟩
      · refine DGet.t (kvs := []) upd_same (k := k) ?_
        rw [upd_ne (ne_of hb h3 (fun z => nomatch z))]; exact hb
      · have := Inv.swapK q upd_same
        rw [upd_back (show H a = some (.dK []) from h3)] at this
        exact this
    · refine ⟨H, I, ?_, fun _ q => q⟩
      rw [← val_k1 kT (fun e => eqT_kT e hk) (allKT_map h1) h2]
      exact DGet.t h3 hb
theorem find_some {t : T} {ks : List T} {vv : List V} (l : ks.length = vv.length) : ((keyIx t ks).bind fun j => vv[j]?).isSome = (keyIx t ks).isSome := by
  cases h : keyIx t ks with
  | none => rfl
  | some j =>
    unfold keyIx at h
    have hj := (List.findIdx?_eq_some_iff_getElem.mp h).1
    simp [show j < vv.length by omega]
theorem DicAt.len {P : HO → Prop} {ks : List T} {vv : List V} (d : DicAt P ks vv) : ks.length = vv.length := by
  rcases d with ⟨kk, h1, h2, _⟩ | ⟨kk, h1, h2, _⟩
  · rw [allK1_len h1, h2]
  · rw [allKT_len h1, h2]
end

section
variable {X : Cx}
theorem tupleAny {pins : List (Addr × Obj)} {σ : L2.St} {H : Hp} {s : Shared} {Z : Addr → Prop} (hu : X.A.units + 65 < cLine) (I : Inv X pins σ H s) {x y : V} {v u : Value} (rx : RelV x v) (ry : RelV y u) {t : T} {ts : List T} {o1 o2 : List Addr}
    (p1 : Rep X.K H Z t o1 x) (p2 : Rep X.K H Z (.tup ts) o2 y) (s1 : shp t = true) (s2 : shp (.tup ts) = true) {Q : VK} (q : Q (.bl (ts.any fun z => eqT z t)) H) :
    wpAny (model X.prog X.w) X.A (compareOp .In v u) (EP X pins σ Q) X.xe s := by
  obtain ⟨as, r1⟩ := Dp.reads I _ x v (dp_shp p1 s1) rx
  obtain ⟨bs, r2⟩ := Dp.reads I _ y u (dp_shp p2 s2) ry
  have e : (datas ts).any (fun z => PyData.eqv z (data t)) = ts.any fun z => eqT z t := by
    rw [datas_map, List.any_map]; rfl
  simp only [data] at r2
  exact SeqAt.in_tuple_reads r2 r1 (by have := SeqAt.canLay_of_shaped s2; simpa only [data, PyData.canLay0] using this) (SeqAt.canLay_of_shaped s1) (by
    have h1 := SeqAt.depth_of_shaped s1
    have h2 : min (PyData.depthAll (datas ts)) (data t).depth ≤ (data t).depth := Nat.min_le_right _ _
    omega) ⟨.bl _, H, I, rfl, by rw [e]; exact q⟩
theorem tupleNone {pins : List (Addr × Obj)} {σ : L2.St} {H : Hp} {s : Shared} {Z : Addr → Prop} (hu : X.A.units + 65 < cLine) (I : Inv X pins σ H s) {x y : V} {v u : Value} (rx : RelV x v) (ry : RelV y u) {t : T} {ts : List T} {o1 o2 : List Addr}
    (p1 : Rep X.K H Z t o1 x) (p2 : Rep X.K H Z (.tup ts) o2 y) (s1 : shp t = true) (s2 : shp (.tup ts) = true) {Q : VK} (q : Q (.bl (!ts.any fun z => eqT z t)) H) :
    wpAny (model X.prog X.w) X.A (compareOp .NotIn v u) (EP X pins σ Q) X.xe s := by
  obtain ⟨as, r1⟩ := Dp.reads I _ x v (dp_shp p1 s1) rx
  obtain ⟨bs, r2⟩ := Dp.reads I _ y u (dp_shp p2 s2) ry
  have e : (datas ts).any (fun z => PyData.eqv z (data t)) = ts.any fun z => eqT z t := by
    rw [datas_map, List.any_map]; rfl
  simp only [data] at r2
  exact SeqAt.notIn_tuple_reads r2 r1 (by have := SeqAt.canLay_of_shaped s2; simpa only [data, PyData.canLay0] using this) (SeqAt.canLay_of_shaped s1) (by
    have h1 := SeqAt.depth_of_shaped s1
    have h2 : min (PyData.depthAll (datas ts)) (data t).depth ≤ (data t).depth := Nat.min_le_right _ _
    omega) ⟨.bl _, H, I, rfl, by rw [e]; exact q⟩
theorem any_datas (t : T) (ts : List T) : (datas ts).any (fun z => PyData.eqv z (data t)) = ts.any fun z => eqT z t := by
  rw [datas_map, List.any_map]; rfl
theorem opB_inn (hu : X.A.units + 65 < cLine) : OpR X (compareOp .In) (r2B X.K (rlP .inn)) := by
  intro pins s σ H x y v u Q I rx ry h
  obtain ⟨t1, t2, Z, o1, o2, Qz, zt, p1, p2, hp, k⟩ := h
  cases t2 with
  | dic o ks vs =>
    have hp' : keyFit t1 ks = true ∧ Qz (keyIx t1 ks).isSome := by cases t1 <;> exact hp
    obtain ⟨a, vv, os', rfl, d, r⟩ := p2.dic_inv
    obtain ⟨H1, I1, g, back⟩ := dic_look I d p1 hp'.1
    cases (show u = Value.ref a from ry)
    refine d_in (by omega) I1 g rx fun s' I' => ?_
    rw [find_some d.len]
    exact ⟨.bl _, H, back s' I', rfl, k _ hp'.2⟩
  | lst o ts =>
    have hp' : shp t1 = true ∧ shp (.lst false ts) = true ∧ Qz (ts.any fun x => eqT x t1) := by cases t1 <;> exact hp
    exact op_inD hu pins s σ H _ _ v u Q I rx ry ⟨_, _, dp_shp p1 hp'.1, dp_shp (t := .lst o ts) p2 hp'.2.1, hp'.1, hp'.2.1, by rw [any_datas]; exact k _ hp'.2.2⟩
  | tup ts =>
    have hp' : shp t1 = true ∧ shp (.tup ts) = true ∧ Qz (ts.any fun x => eqT x t1) := by cases t1 <;> exact hp
    exact tupleAny hu I rx ry p1 p2 hp'.1 hp'.2.1 (k _ hp'.2.2)
  | _ => cases t1 <;> exact False.elim hp
theorem opB_nin (hu : X.A.units + 65 < cLine) : OpR X (compareOp .NotIn) (r2B X.K (rlP .nin)) := by
  intro pins s σ H x y v u Q I rx ry h
  obtain ⟨t1, t2, Z, o1, o2, Qz, zt, p1, p2, hp, k⟩ := h
  cases t2 with
  | dic o ks vs =>
    have hp' : keyFit t1 ks = true ∧ Qz (!(keyIx t1 ks).isSome) := by cases t1 <;> exact hp
    obtain ⟨a, vv, os', rfl, d, r⟩ := p2.dic_inv
    obtain ⟨H1, I1, g, back⟩ := dic_look I d p1 hp'.1
    cases (show u = Value.ref a from ry)
    refine d_notIn (by omega) I1 g rx fun s' I' => ?_
    rw [find_some d.len]
    exact ⟨.bl _, H, back s' I', rfl, k _ hp'.2⟩
  | lst o ts =>
    have hp' : shp t1 = true ∧ shp (.lst false ts) = true ∧ Qz (!ts.any fun x => eqT x t1) := by cases t1 <;> exact hp
    exact op_notInD hu pins s σ H _ _ v u Q I rx ry ⟨_, _, dp_shp p1 hp'.1, dp_shp (t := .lst o ts) p2 hp'.2.1, hp'.1, hp'.2.1, by rw [any_datas]; exact k _ hp'.2.2⟩
  | tup ts =>
    have hp' : shp t1 = true ∧ shp (.tup ts) = true ∧ Qz (!ts.any fun x => eqT x t1) := by cases t1 <;> exact hp
    exact tupleNone hu I rx ry p1 p2 hp'.1 hp'.2.1 (k _ hp'.2.2)
  | _ => cases t1 <;> exact False.elim hp
theorem opB (hu : X.A.units + 65 < cLine) : ∀ r : Rl, OpR X (compareOp (rlA r)) (r2B X.K (rlP r))
  | .eq => opB_eq (by omega) | .ne => opB_ne (by omega) | .lt => opB_lt (by omega) | .le => opB_le (by omega) | .gt => opB_gt (by omega) | .ge => opB_ge (by omega)
  | .inn => opB_inn hu | .nin => opB_nin hu | .is => opB_is | .isn => opB_isn

/-! ### items -/
theorem Reps.atI {K : PySem.W.Frag} {H : Hp} {Z : Addr → Prop} {ts : List T} {os : List Addr} {vs : List V} {i : Int} {t : T} (r : Reps K H Z ts os vs) (h : atI ts i = some t) : ∃ v o, L2.atI vs i = some v ∧ Rep K H Z t o v := by
  unfold L2.atI at h ⊢
  rw [r.length] at h
  obtain ⟨j, h1, h2⟩ := Option.bind_eq_some_iff.mp h
  obtain ⟨v, o, h3, h4, _⟩ := r.get h2
  exact ⟨v, o, by rw [h1]; exact h3, h4⟩
/-- an item by its place or key, that owns nothing -/
def rIxP (K : PySem.W.Frag) : R2 := fun x y H Q => ∃ t1 t2 z Z o1 o2, Zt H Z ∧ Rep K H Z t1 o1 x ∧ Rep K H Z t2 o2 y ∧ idxT t1 t2 = some z ∧ isF z = true ∧ ∀ w, Rep K H Z z [] w → Q w H
theorem tail_dict {value slice : Expr} {s : Shared} {o i : Value} {Q : Value → Shared → Prop} (hT : s.TypeIs o "dict") (hs : subscripted slice false o i = operate [o, i] (getItem o i)) (h : wpAny (model X.prog X.w) X.A (getItem o i) Q X.xe s) :
    wpAny (model X.prog X.w) X.A (subscriptTail value slice o i) Q X.xe s := by
  unfold subscriptTail
  refine wpAny_bind ?_
  rw [getitemInPython_of_ne hT.not_modules]
  refine wpAny_bind (wpAny_specialOf hT PySem.F.slot_dict_getitem.lookup ?_)
  have fin : wpAny (model X.prog X.w) X.A (subscripted slice false o i) (fun r s₃ => wpAny (model X.prog X.w) X.A (letTemporaryGo value o r >>= fun _ => pure r) Q X.xe s₃) X.xe s := by
    rw [hs]
    exact wpAny_operating (wpAny_mono h (fun r s₃ h₃ => wpAny_bind (wpAny_letTemporaryGo (wpAny_pure h₃))) fun _ _ x => x)
  first
    | exact wpAny_pure (wpAny_bind fin)
    | exact wpAny_bind (wpAny_pure (wpAny_bind fin))
    | exact wpAny_bind fin
theorem ixP (hu : X.A.units + 1 < cLine) : IxR X (rIxP X.K) := by
  intro value slice pins s σ H x y v u Q I rx ry h hs
  obtain ⟨t1, t2, z, Z, o1, o2, zt, p1, p2, hi, f, q⟩ := h
  have nil : ∀ {o w}, Rep X.K H Z z o w → Rep X.K H Z z [] w := fun {o w} r => by
    have := r.nil z f
    subst this; exact r
  cases t1 with
  | tup ts =>
    cases t2 with
    | int i =>
      obtain ⟨a, vs, rfl, fz, r⟩ := p1.tup_inv
      cases p2.int_inv
      obtain ⟨w, o, h1, h2⟩ := r.atI hi
      exact ix_tup value slice pins s σ H _ _ v u Q I rx ry ⟨a, vs, i, w, rfl, rfl, fz.sq, h1, q w (nil h2)⟩ hs
    | _ => simp [idxT] at hi
  | lst o ts =>
    cases t2 with
    | int i =>
      obtain ⟨a, vs, os', rfl, fz, r⟩ := p1.lst_any
      cases p2.int_inv
      obtain ⟨w, o, h1, h2⟩ := r.atI hi
      exact ix_list value slice pins s σ H _ _ v u Q I rx ry ⟨a, vs, i, w, rfl, rfl, .inl fz, h1, q w (nil h2)⟩ hs
    | _ => simp [idxT] at hi
  | str y =>
    cases t2 with
    | int i =>
      cases p1.str_inv
      cases p2.int_inv
      simp only [idxT] at hi
      split at hi
      · rename_i hz
        obtain ⟨c, h1, h2⟩ := Option.map_eq_some_iff.mp hi
        subst h2
        exact ix_str value slice pins s σ H _ _ v u Q I rx ry ⟨y, i, c, rfl, rfl, hz, h1, q _ rep_str⟩ hs
      · cases hi
    | _ => simp [idxT] at hi
  | dic o ks ts =>
    have hi' : (if keyFit t2 ks = true then (keyIx t2 ks).bind fun j => ts[j]? else none) = some z := by cases t2 <;> exact hi
    split at hi'
    · rename_i hf
      obtain ⟨a, vv, os', rfl, d, r⟩ := p1.dic_inv
      cases (show v = Value.ref a from rx)
      obtain ⟨H1, I1, g, back⟩ := dic_look I d p2 hf
      obtain ⟨j, h1, h2⟩ := Option.bind_eq_some_iff.mp hi'
      obtain ⟨w, o, h3, h4, _⟩ := r.get h2
      rw [h1] at g
      have g' : DGet H1 a y (some w) := by
        rw [← h3]; exact g
      refine tail_dict (dict_typeIs I1 g') hs (d_getItem hu I1 g' ry fun w' s3 I3 rw' => ⟨w, H, back s3 I3, rw', q w (nil h4)⟩)
    · cases hi'
  | _ => cases t2 <;> simp [idxT] at hi

/-! ### slices -/
def rSlP (K : PySem.W.Frag) : V → Option Int → Option Int → Hp → VK → Prop := fun x lo hi H Q => ∃ t Z o Qz, Zt H Z ∧ Rep K H Z t o x ∧ slP t lo hi Qz ∧ ∀ z v H' Z' os', Qz z → Nw K H Z z v H' Z' os' → Q v H'
theorem Reps.cut {K : PySem.W.Frag} {H : Hp} {Z : Addr → Prop} {ts : List T} {vs : List V} (lo hi : Option Int) (h : Reps K H Z ts [] vs) : Reps K H Z (slP.cutV' ts lo hi) [] (cutV vs lo hi) := by
  unfold slP.cutV' cutV
  rw [h.length]
  exact (h.drop _).take _
theorem slPs : SlR X (rSlP X.K) := by
  intro pins s σ H x v vl vu lo hi sl Q I rx hs pl pu h
  obtain ⟨t, Z, o, Qz, zt, p, hp, k⟩ := h
  cases t with
  | tup ts =>
    obtain ⟨f, hp⟩ := hp
    obtain ⟨a, vs, rfl, fz, r⟩ := p.tup_f f
    refine sl_tupA pins s σ H _ v vl vu lo hi sl Q I rx hs pl pu ⟨a, vs, rfl, fz.sq, fun hw => ?_, fun _ q np => ?_⟩
    · refine k _ _ _ _ _ hp (.scalar ?_ zt)
      have e : slP.cutV' ts lo hi = ts := by
        unfold slP.cutV'
        rw [r.length, hw.1, hw.2, List.drop_zero, Nat.sub_zero, ← r.length, List.take_length]
      rw [e]
      simp only [Rep]
      exact ⟨a, vs, rfl, fz, r⟩
    · exact k _ _ _ _ _ hp (.tup (r.cut lo hi) zt np)
  | lst o ts =>
    obtain ⟨f, hp⟩ := hp
    obtain ⟨a, vs, rfl, fz, r⟩ := p.lst_inv f
    exact sl_list pins s σ H _ v vl vu lo hi sl Q I rx hs pl pu ⟨a, vs, rfl, .inl fz, fun q np => k _ _ _ _ _ hp (.lst (r.cut lo hi) zt np)⟩
  | scr ns =>
    simp only [Rep] at p
    obtain ⟨_, a, rfl, fz⟩ := p
    have sq : SqL X.K H a (ns.map V.int) := by
      rcases fz with ⟨_, q⟩ | q
      · exact .inl q
      · exact .inr q
    exact sl_list pins s σ H _ v vl vu lo hi sl Q I rx hs pl pu ⟨a, _, rfl, sq, fun q np => k _ _ _ _ _ hp (.lst ((Reps.ints ns).cut lo hi) zt np)⟩
  | str z =>
    cases p.str_inv
    exact sl_str pins s σ H _ v vl vu lo hi sl Q I rx hs pl pu ⟨z, rfl, hp.1, k _ _ _ _ _ hp.2 (.scalar rep_str zt)⟩
  | _ => exact False.elim hp

/-! ### isinstance -/
def tyN : Ty → String
  | .int => "int" | .bool => "bool" | .str => "str" | .tuple => "tuple" | .list => "list"
theorem isiP (ty : Ty) {pins : List (Addr × Obj)} {s : Shared} {σ : L2.St} {H : Hp} {x : V} {us : List Value} {Q : VK} (I : Inv X pins σ H s) (rx : Vals [x, .ty (tyN ty)] us) {t : T} {Z : Addr → Prop} {o : List Addr} (p : Rep X.K H Z t o x) (q : Q (.bl (isTy ty t)) H) :
    wpAny (model X.prog X.w) X.A (call (.builtin "isinstance") us) (EP X pins σ Q) X.xe s := by
  have go : ∀ (a : String), TyX X.K H x (.type a) → kitB a (tyN ty) = some (isTy ty t) → wpAny (model X.prog X.w) X.A (call (.builtin "isinstance") us) (EP X pins σ Q) X.xe s := fun a h1 h2 =>
    call_isi pins s σ H _ us Q I rx ⟨x, .ty (tyN ty), .type a, .type (tyN ty), _, rfl, .ty _, h1, kit_ty h2, q⟩
  cases t with
  | non => cases p.non_inv; refine go "NoneType" (.base .non) ?_; cases ty <;> decide +kernel
  | bl b => cases p.bl_inv; refine go "bool" (.base (.bl b)) ?_; cases ty <;> (show _ = some _; simp only [isTy]; decide +kernel)
  | int i => cases p.int_inv; refine go "int" (.base (.int i)) ?_; cases ty <;> (show _ = some _; simp only [isTy]; decide +kernel)
  | str z => cases p.str_inv; refine go "str" (.base (.str z)) ?_; cases ty <;> (show _ = some _; simp only [isTy]; decide +kernel)
  | tup ts =>
    obtain ⟨a, vs, rfl, fz, r⟩ := p.tup_inv
    refine go "tuple" (.base (.tup fz.2)) ?_
    cases ty <;> (show _ = some _; simp only [isTy]; decide +kernel)
  | lst o ts =>
    obtain ⟨a, vs, os', rfl, fz, r⟩ := p.lst_any
    refine go "list" ?_ ?_
    · rcases fz with e | ⟨ob, e⟩
      · exact .base (.lst e)
      · exact .base (.frz e)
    · cases ty <;> (show _ = some _; simp only [isTy]; decide +kernel)
  | dic o ks ts =>
    obtain ⟨a, vv, os', rfl, d, r⟩ := p.dic_inv
    refine go "dict" ?_ ?_
    · rcases d with ⟨_, _, _, e⟩ | ⟨_, _, _, e⟩
      · exact .base (.dK e)
      · exact .base (.dT e)
    · cases ty <;> (show _ = some _; simp only [isTy]; decide +kernel)
  | scr ns =>
    simp only [Rep] at p
    obtain ⟨_, a, rfl, fz⟩ := p
    refine go "list" ?_ ?_
    · rcases fz with ⟨_, e | ⟨ob, e⟩⟩ | ⟨ob, its, n, e, c, _⟩
      · exact .base (.lst e)
      · exact .base (.frz e)
      · exact .kList e c
    · cases ty <;> (show _ = some _; simp only [isTy]; decide +kernel)
end
end PL

end
section
set_option maxHeartbeats 4000000
/-! PLe: built-ins of one value, sorted among them; methods. -/
namespace PySem.W
open PySem PySem.Calls PyProof.Rows
section
variable {prog : Program} {w : World} {A : Around} {E : Value → Shared → Prop} {s : Shared}
/-- sorted(v), v anything that can be collected -/
theorem sorted_any {l : Addr} {vs : List Value} {Q : Value → Shared → Prop} (hL : vs.length ≤ sizeLine)
    (hc : ∀ (Q' : List Value → Shared → Prop) (E' : Value → Shared → Prop), (∀ h' : Heap, (∀ b o, s.heap.get? b = some o → h'.get? b = some o) → Q' vs { s with heap := h' }) → wpAny (model prog w) A.in1 (collect (.ref l)) Q' E' s)
    (h : ∀ h' : Heap, (∀ b o, s.heap.get? b = some o → h'.get? b = some o) → ∃ κ, SortsAt prog w A.in1.in1 { s with heap := sortingHeap (h'.push (seqObj "list" vs.toArray 0)) h'.objs.size vs } κ vs ∧
      Q (.ref h'.objs.size) { s with heap := sortedHeap (h'.push (seqObj "list" vs.toArray 0)) h'.objs.size vs (sortVals κ false vs vs).toArray }) : wpAny (model prog w) A (call (.builtin "sorted") [.ref l]) Q E s := by
  refine call_function_entry_kw kind_sorted plain_sorted entry_sorted (args_sorted1 _) ?_
  unfold Builtin.«sorted»
  refine wpAny_bind (m := checkCount "sorted" 1 1 _) (wpAny_pure ?_)
  refine wpAny_bind (hc _ _ fun h' k => ?_)
  obtain ⟨κ, S, hq⟩ := h h' k
  refine wpAny_bind (wpAny_newList ?_ hL)
  have at_ : (h'.push (seqObj "list" vs.toArray 0)).get? h'.objs.size = some (seqObj "list" vs.toArray 0) := Heap.get?_push_size _ rfl
  show wpAny _ _ _ _ _ { s with heap := h'.push (seqObj "list" vs.toArray 0) }
  refine wpAny_bind (wpAny_holding (wpAny_call_entry_kw slot_list_sort ⟨_, at_, rfl⟩ entry_list_sort ?body (args_list_sort _)))
  case body =>
    show wpAny (model prog w) A.in1.in1 (Builtin.«list.sort» ⟨[.ref h'.objs.size], []⟩) _ _ _
    exact list_sort_vals (s := { s with heap := h'.push (seqObj "list" vs.toArray 0) }) at_ S hL ⟨_, rfl, wpAny_pure ⟨_, rfl, hq⟩⟩
end
end PySem.W
namespace PL
open PySem PySem.Spec L2
open PyProof.Rows hiding St
section
variable {X : Cx}
theorem each_of {pins : List (Addr × Obj)} {σ : L2.St} {H : Hp} {s : Shared} {Z : Addr → Prop} (I : Inv X pins σ H s) : ∀ {ts : List T} {vs : List V} {us : List Value}, Reps X.K H Z ts [] vs → Vals vs us → (∀ t ∈ ts, shp t = true) →
    PySem.W.EachIs (fun u t => ∃ v, RelV v u ∧ Rep X.K H Z t [] v) us ts ∧ PySem.W.EachIs (fun u t => ∃ as, Reads s.heap u (data t) as) us ts
  | [], vs, us, h, r, _ => by
    simp only [Reps] at h
    rw [h.2] at r
    cases r
    exact ⟨.nil, .nil⟩
  | t :: ts, vs, us, h, r, c => by
    simp only [Reps] at h
    obtain ⟨o1, o2, v, vs', e1, e2, r1, r2⟩ := h
    obtain ⟨rfl, rfl⟩ := List.append_eq_nil_iff.mp e1.symm
    subst e2
    cases r with
    | cons q qs =>
      obtain ⟨h1, h2⟩ := each_of I r2 qs fun t m => c t (List.mem_cons_of_mem _ m)
      obtain ⟨as, ra⟩ := Dp.reads I _ v _ (dp_shp r1 (c t List.mem_cons_self)) q
      exact ⟨.cons ⟨v, q, r1⟩ h1, .cons ⟨as, ra⟩ h2⟩
theorem of_each {K : PySem.W.Frag} {H : Hp} {Z : Addr → Prop} : ∀ {ts : List T} {us : List Value}, PySem.W.EachIs (fun u t => ∃ v, RelV v u ∧ Rep K H Z t [] v) us ts → ∃ vs, Vals vs us ∧ Reps K H Z ts [] vs
  | [], us, h => by cases h; exact ⟨[], .nil, by simp [Reps]⟩
  | t :: ts, us, h => by
    cases h with
    | cons h1 h2 =>
      obtain ⟨v, q, r⟩ := h1
      obtain ⟨vs, qs, rs⟩ := of_each h2
      refine ⟨v :: vs, .cons q qs, ?_⟩
      simp only [Reps]
      exact ⟨[], [], v, vs, rfl, rfl, r, rs⟩
theorem collect_T {pins : List (Addr × Obj)} {σ : L2.St} {H : Hp} {s : Shared} {a : Addr} {vs : List V} (I : Inv X pins σ H s) (h : SqL X.K H a vs ∨ SqT X.K H a vs) : ∃ us, Vals vs us ∧ us.length ≤ sizeLine ∧
    ∀ (A : Around) (Q' : List Value → Shared → Prop) (E' : Value → Shared → Prop), (∀ h' : Heap, (∀ b o, s.heap.get? b = some o → h'.get? b = some o) → Q' us { s with heap := h' }) → wpAny (model X.prog X.w) A (collect (.ref a)) Q' E' s := by
  rcases h with h | h
  · obtain ⟨its, rv, pl, hz⟩ := I.list h
    obtain ⟨o, ho, hc, n, hd⟩ := pl.isList
    have hl := rv.length
    refine ⟨its, rv, by omega, fun A Q' E' q => wpAny_collect_seq a (.inl rfl) ho hc hd (fun h' k => ?_) (by simp only [List.size_toArray] <;> omega)⟩
    have := q h' k
    simpa using this
  · obtain ⟨its, rv, pl, hz⟩ := I.tuple h
    obtain ⟨o, ho, hc, n, hd⟩ := pl
    have hl := rv.length
    refine ⟨its, rv, by omega, fun A Q' E' q => wpAny_collect_seq a (.inr rfl) ho hc hd (fun h' k => ?_) (by simp only [List.size_toArray] <;> omega)⟩
    have := q h' k
    simpa using this
/-- sorted(v): v a list or a tuple -/
theorem sortT (hu : X.A.units + 80 < cLine) {pins : List (Addr × Obj)} {σ : L2.St} {H : Hp} {s : Shared} {Z : Addr → Prop} {a : Addr} {vs : List V} {ts : List T} {Q : VK} (I : Inv X pins σ H s) (h : SqL X.K H a vs ∨ SqT X.K H a vs) (zt : Zt H Z)
    (r : Reps X.K H Z ts [] vs) (hs : sortable ts) (q : ∀ v H' Z' os', Nw X.K H Z (.lst true (ts.mergeSort (PySem.W.dataLe false data))) v H' Z' os' → Q v H') :
    wpAny (model X.prog X.w) X.A (call (.builtin "sorted") [.ref a]) (EP X pins σ Q) X.xe s := by
  obtain ⟨hal, hk, hsh⟩ := hs
  rw [datas_map] at hal hk
  obtain ⟨us, rv, hz, hc⟩ := collect_T I h
  refine PySem.W.sorted_any hz (hc _) fun h' k => ?_
  have hnew : (h'.push (seqObj "list" us.toArray 0)).get? h'.objs.size = some (seqObj "list" us.toArray 0) := Heap.get?_push_size _ rfl
  have old : ∀ b o, h'.get? b = some o → (PySem.W.sortingHeap (h'.push (seqObj "list" us.toArray 0)) h'.objs.size us).get? b = some o := fun b o e =>
    PySem.W.sortingHeap_old (Nat.ne_of_lt (Heap.lt_size e)) (Heap.get?_push_of_some _ e)
  -- in the heap in which it sorts
  have I1 : Inv X pins σ H { s with heap := PySem.W.sortingHeap (h'.push (seqObj "list" us.toArray 0)) h'.objs.size us } := I.kept (t' := s.toks) fun b o e => old b o (k b o e)
  obtain ⟨e1, e2⟩ := each_of I1 r rv hsh
  refine ⟨PySem.W.dataKind (PySem.W.sortingHeap (h'.push (seqObj "list" us.toArray 0)) h'.objs.size us) (ts.map data), ?_, ?_⟩
  · refine PySem.W.SortsAt.data (s := { s with heap := PySem.W.sortingHeap (h'.push (seqObj "list" us.toArray 0)) h'.objs.size us }) (PySem.W.each_map (R := fun u d => ∃ as, Reads (PySem.W.sortingHeap (h'.push (seqObj "list" us.toArray 0)) h'.objs.size us) u d as) data e2) hal hk fun d hd => ?_
    obtain ⟨t, ht, rfl⟩ := List.mem_map.mp hd
    have := SeqAt.depth_of_shaped (hsh t ht)
    show X.A.units + 1 + 1 + _ < _
    omega
  · have e3 := PySem.W.sortVals_data (h' := PySem.W.sortingHeap (h'.push (seqObj "list" us.toArray 0)) h'.objs.size us) (R := fun u t => ∃ v, RelV v u ∧ Rep X.K H Z t [] v) (enc := data) false e1 e2 hal
    obtain ⟨out, ro, rp⟩ := of_each e3
    obtain ⟨ep, hat⟩ := sortedHeap_at (out := (PySem.W.sortVals (PySem.W.dataKind (PySem.W.sortingHeap (h'.push (seqObj "list" us.toArray 0)) h'.objs.size us) (ts.map data)) false us us).toArray) hnew
    have lo : out.length ≤ sizeLine := by
      rw [← rp.length, List.length_mergeSort, r.length, rv.length]; exact hz
    have I0 : Inv X pins σ H { s with heap := h' } := I.kept (t' := s.toks) k
    refine ⟨.ref h'.objs.size, upd H h'.objs.size (.lst out), I0.laid (t' := s.toks) (fun b o e => ?_) (Nat.le_refl _) ⟨lo, _, ep, ro, hat⟩, rfl, q _ _ _ _ (.lst rp zt (I0.hok.fresh (Nat.le_refl _)))⟩
    show (sortedHeap (h'.push (seqObj "list" us.toArray 0)) h'.objs.size us _).get? b = _
    rw [sortedHeap_old (Nat.ne_of_lt (Heap.lt_size e)) (by rw [Heap.size_push]; exact Nat.lt_succ_of_lt (Heap.lt_size e))]
    exact Heap.get?_push_of_some _ e

/-! ### built-ins of one value -/
theorem intsT_vals {K : PySem.W.Frag} {H : Hp} {Z : Addr → Prop} : ∀ {ts : List T} {os : List Addr} {vs : List V} {ns : List Int}, Reps K H Z ts os vs → intsT ts = some ns → vs = ns.map V.int
  | [], _, _, ns, h, e => by
    simp only [intsT, Option.some.injEq] at e
    simp only [Reps] at h
    rw [h.2, ← e]; rfl
  | t :: ts, _, _, ns, h, e => by
    simp only [Reps] at h
    obtain ⟨o1, o2, v, vs', _, q, r1, r2⟩ := h
    cases t <;> simp only [intsT, reduceCtorEq] at e
    obtain ⟨m, e1, rfl⟩ := Option.map_eq_some_iff.mp e
    rw [q, r1.int_inv, intsT_vals r2 e1]; rfl
theorem blsT_vals {K : PySem.W.Frag} {H : Hp} {Z : Addr → Prop} : ∀ {ts : List T} {os : List Addr} {vs : List V} {ns : List Bool}, Reps K H Z ts os vs → blsT ts = some ns → vs = ns.map V.bl
  | [], _, _, ns, h, e => by
    simp only [blsT, Option.some.injEq] at e
    simp only [Reps] at h
    rw [h.2, ← e]; rfl
  | t :: ts, _, _, ns, h, e => by
    simp only [Reps] at h
    obtain ⟨o1, o2, v, vs', _, q, r1, r2⟩ := h
    cases t <;> simp only [blsT, reduceCtorEq] at e
    obtain ⟨m, e1, rfl⟩ := Option.map_eq_some_iff.mp e
    rw [q, r1.bl_inv, blsT_vals r2 e1]; rfl
/-- sum of a tuple -/
theorem cr_sumT (hc : X.calm = true) {pins : List (Addr × Obj)} {σ : L2.St} {H : Hp} {s : Shared} {a : Addr} {ns : List Int} {Q : VK} (I : Inv X pins σ H s) (hs : SqT X.K H a (ns.map V.int)) (q : Q (.int ns.sum) H) :
    wpAny (model X.prog X.w) X.A (call (.builtin "sum") [.ref a]) (EP X pins σ Q) X.xe s := by
  obtain ⟨its, rv, ht, _⟩ := I.tuple hs
  have hi := rv.ints
  obtain ⟨xs, hx⟩ := hi.allInts.items
  have hn : numsOf its.toArray.toList = ns := by rw [show its.toArray.toList = its from rfl, hi.numsOf]
  have hl : s.heap.IsTuple a its.toArray := ht
  rw [hx] at hl hn
  rw [nums_intItems] at hn
  refine PySem.W.ktm_sumG (I.ok.hd hc) hl fun h' tk t' hk => ⟨.int ns.sum, H, I.kept hk, ?_, q⟩
  refine ⟨t', ?_⟩
  rw [preSum_eq, List.take_of_length_le (by simp), hn]
def biV : Bi → Value
  | .len => .builtin "len" | .list => .type "list" | .tuple => .type "tuple" | .int => .type "int" | .sorted => .builtin "sorted" | .abs => .builtin "abs" | .sum => .builtin "sum" | .all => .builtin "all" | .any => .builtin "any" | .str => .type "str"
theorem biT (hc : X.calm = true) (hu : X.A.units + 80 < cLine) : ∀ b : Bi, CallR X (biV b) (r1T X.K (biP b)) := by
  intro b pins s σ H xs us Q I r h
  obtain ⟨x, t, Z, o, Qz, rfl, zt, p, hp, k⟩ := h
  cases b with
  | len =>
    cases t with
    | tup ts =>
      obtain ⟨a, vs, rfl, fz, rs⟩ := p.tup_inv
      exact call_len_seq pins s σ H _ us Q I r ⟨a, vs, rfl, .inr fz.sq, by rw [← rs.length]; exact k _ _ _ _ _ hp (.scalar rep_int zt)⟩
    | lst o ts =>
      obtain ⟨a, vs, os', rfl, fz, rs⟩ := p.lst_any
      exact call_len_seq pins s σ H _ us Q I r ⟨a, vs, rfl, .inl (.inl fz), by rw [← rs.length]; exact k _ _ _ _ _ hp (.scalar rep_int zt)⟩
    | str z =>
      cases p.str_inv
      exact call_len_str pins s σ H _ us Q I r ⟨z, rfl, hp.1, k _ _ _ _ _ hp.2 (.scalar rep_int zt)⟩
    | dic o ks ts =>
      obtain ⟨a, vv, os', rfl, d, rs⟩ := p.dic_inv
      have hl := d.len
      have hq := k _ _ _ _ _ hp (.scalar rep_int zt)
      rcases d with ⟨kk, h1, h2, h3⟩ | ⟨kk, h1, h2, h3⟩
      · cases r with
        | cons r1 r2 =>
          cases r2
          cases r1
          refine d_len I (.inl h3) fun tk s' I' => ⟨.int ((kk.zip vv).length : Nat), H, I', ⟨_, rfl⟩, ?_⟩
          rw [List.length_zip, h2, Nat.min_self, ← hl]
          exact hq
      · refine call_len_dT pins s σ H _ us Q I r ⟨a, _, rfl, h3, ?_⟩
        rw [List.length_zip, h2, Nat.min_self, ← hl]
        exact hq
    | _ => exact False.elim hp
  | list =>
    cases t with
    | tup ts =>
      obtain ⟨f, hq⟩ := hp
      obtain ⟨a, vs, rfl, fz, rs⟩ := p.tup_f f
      exact call_list_of pins s σ H _ us Q I r ⟨a, vs, rfl, .inr fz.sq, fun l hl => k _ _ _ _ _ hq (.lst rs zt hl)⟩
    | lst o ts =>
      obtain ⟨f, hq⟩ := hp
      obtain ⟨a, vs, rfl, fz, rs⟩ := p.lst_inv f
      exact call_list_of pins s σ H _ us Q I r ⟨a, vs, rfl, .inl (.inl fz), fun l hl => k _ _ _ _ _ hq (.lst rs zt hl)⟩
    | _ => exact False.elim hp
  | tuple =>
    cases t with
    | tup ts =>
      obtain ⟨f, hq⟩ := hp
      obtain ⟨a, vs, rfl, fz, rs⟩ := p.tup_f f
      exact call_tuple_of pins s σ H _ us Q I r ⟨a, vs, rfl, .inr ⟨fz.sq, k _ _ _ _ _ hq (.scalar (by simp only [Rep]; exact ⟨a, vs, rfl, fz, rs⟩) zt)⟩⟩
    | lst o ts =>
      obtain ⟨f, hq⟩ := hp
      obtain ⟨a, vs, rfl, fz, rs⟩ := p.lst_inv f
      exact call_tuple_of pins s σ H _ us Q I r ⟨a, vs, rfl, .inl ⟨.inl fz, fun l hl => k _ _ _ _ _ hq (.tup rs zt hl)⟩⟩
    | _ => exact False.elim hp
  | int =>
    cases t with
    | int i =>
      cases p.int_inv
      exact call_int1 pins s σ H _ us Q I r (.inl ⟨i, rfl, k _ _ _ _ _ hp (.scalar rep_int zt)⟩)
    | bl b =>
      cases p.bl_inv
      exact call_int1 pins s σ H _ us Q I r (.inr ⟨b, rfl, k _ _ _ _ _ hp (.scalar rep_int zt)⟩)
    | _ => exact False.elim hp
  | abs =>
    cases t with
    | int i =>
      cases p.int_inv
      exact call_abs pins s σ H _ us Q I r ⟨i, rfl, k _ _ _ _ _ hp (.scalar rep_int zt)⟩
    | _ => exact False.elim hp
  | str =>
    cases t with
    | int i =>
      cases p.int_inv
      exact call_str_int pins s σ H _ us Q I r ⟨i, rfl, hp.1, k _ _ _ _ _ hp.2 (.scalar rep_str zt)⟩
    | _ => exact False.elim hp
  | sum =>
    cases t with
    | lst o ts =>
      obtain ⟨ns, e, hq⟩ := hp
      obtain ⟨a, vs, os', rfl, fz, rs⟩ := p.lst_any
      have := intsT_vals rs e
      subst this
      exact cr_sum hc pins s σ H _ us Q I r ⟨a, ns, rfl, .inl fz, k _ _ _ _ _ hq (.scalar rep_int zt)⟩
    | tup ts =>
      obtain ⟨ns, e, hq⟩ := hp
      obtain ⟨a, vs, rfl, fz, rs⟩ := p.tup_inv
      have := intsT_vals rs e
      subst this
      rw [Vals.ref1 r]
      exact cr_sumT hc I fz.sq (k _ _ _ _ _ hq (.scalar rep_int zt))
    | _ => exact False.elim hp
  | all =>
    cases t with
    | lst o ts =>
      obtain ⟨ns, e, hq⟩ := hp
      obtain ⟨a, vs, os', rfl, fz, rs⟩ := p.lst_any
      have := blsT_vals rs e
      subst this
      exact cr_all hc pins s σ H _ us Q I r ⟨a, ns, rfl, .inl fz, k _ _ _ _ _ hq (.scalar rep_bl zt)⟩
    | _ => exact False.elim hp
  | any =>
    cases t with
    | lst o ts =>
      obtain ⟨ns, e, hq⟩ := hp
      obtain ⟨a, vs, os', rfl, fz, rs⟩ := p.lst_any
      have := blsT_vals rs e
      subst this
      exact cr_any hc pins s σ H _ us Q I r ⟨a, ns, rfl, .inl fz, k _ _ _ _ _ hq (.scalar rep_bl zt)⟩
    | _ => exact False.elim hp
  | sorted =>
    cases t with
    | tup ts =>
      obtain ⟨f, hs, hq⟩ := hp
      obtain ⟨a, vs, rfl, fz, rs⟩ := p.tup_f f
      cases r with
      | cons r1 r2 =>
        cases r2
        cases r1
        exact sortT hu I (.inr fz.sq) zt rs hs fun v H' Z' os' n => k _ _ _ _ _ hq n
    | lst o ts =>
      obtain ⟨f, hs, hq⟩ := hp
      obtain ⟨a, vs, rfl, fz, rs⟩ := p.lst_inv f
      cases r with
      | cons r1 r2 =>
        cases r2
        cases r1
        exact sortT hu I (.inl (.inl fz)) zt rs hs fun v H' Z' os' n => k _ _ _ _ _ hq n
    | _ => exact False.elim hp
end
end PL

end
section
set_option maxHeartbeats 4000000
/-! PLf: names, constants, displays, operators, tests, calls: the rules by plain values. -/
namespace PL
open PySem PySem.Spec L2
open PyProof.Rows hiding St

/-! ### the owners by slots -/
theorem flatten_take : ∀ {Os : List (List Addr)} {i : Nat}, (Os.getD i [] ++ (Os.set i []).flatten).Perm Os.flatten
  | [], i => by simp
  | o :: Os, 0 => by simp
  | o :: Os, i + 1 => by
    have ih := flatten_take (Os := Os) (i := i)
    rw [List.set_cons_succ, List.getD_cons_succ, List.flatten_cons, List.flatten_cons]
    refine List.Perm.trans ?_ (ih.append_left o)
    rw [← List.append_assoc, ← List.append_assoc]
    exact List.perm_append_comm.append_right _
theorem flatten_put : ∀ {Os : List (List Addr)} {i : Nat} {os : List Addr}, i < Os.length → ((Os.set i os).flatten).Perm (os ++ (Os.set i []).flatten)
  | [], i, os, h => by simp at h
  | o :: Os, 0, os, h => by simp
  | o :: Os, i + 1, os, h => by
    have ih := flatten_put (Os := Os) (i := i) (os := os) (by simpa using h)
    rw [List.set_cons_succ, List.set_cons_succ, List.flatten_cons, List.flatten_cons]
    refine (ih.append_left o).trans ?_
    rw [← List.append_assoc, ← List.append_assoc]
    exact List.perm_append_comm.append_right _
theorem flatten_drop {Os : List (List Addr)} {i : Nat} : ((Os.set i []).flatten).Sublist Os.flatten := by
  induction Os generalizing i with
  | nil => simp
  | cons o Os ih =>
    cases i with
    | zero => simp
    | succ i =>
      rw [List.set_cons_succ, List.flatten_cons, List.flatten_cons]
      exact ih.append_left o
section
variable {K : PySem.W.Frag} {H H' : Hp} {Z Z' : Addr → Prop} {Γ : Env} {Os : List (List Addr)} {σ : L2.St}
theorem getD_set_ne {Os : List (List Addr)} {i j : Nat} {o : List Addr} (h : i ≠ j) : (Os.set i o).getD j [] = Os.getD j [] := by
  rw [List.getD_eq_getElem?_getD, List.getD_eq_getElem?_getD, List.getElem?_set_ne h]
theorem getD_set_self {Os : List (List Addr)} {i : Nat} {o : List Addr} (h : i < Os.length) : (Os.set i o).getD i [] = o := by
  rw [List.getD_eq_getElem?_getD, List.getElem?_set_self h]; rfl
/-- a slot forgotten -/
theorem Ok.drop (ok : Ok K H Z Γ Os σ) (i : Nat) : Ok K H Z (Γ.set i none) (Os.set i []) σ := by
  refine ⟨by rw [List.length_set]; exact ok.ls, by rw [List.length_set, List.length_set]; exact ok.lo, fun j t h => ?_, ok.own.sublist flatten_drop, ok.zt⟩
  by_cases e : i = j
  · subst e
    by_cases hi : i < Γ.length
    · rw [List.getElem?_set_self hi] at h; cases h
    · rw [List.getElem?_eq_none (by simpa using hi)] at h; cases h
  · rw [List.getElem?_set_ne e] at h
    obtain ⟨v, h1, h2⟩ := ok.get j t h
    exact ⟨v, h1, by rw [getD_set_ne e]; exact h2⟩
/-- .. its owners out -/
theorem Ok.out (ok : Ok K H Z Γ Os σ) (i : Nat) : Own H Z (Os.getD i [] ++ (Os.set i []).flatten) := ok.own.perm flatten_take.symm
/-- a slot set -/
theorem Ok.put {i : Nat} {t : T} {os : List Addr} {v : V} (ok : Ok K H Z Γ Os σ) (hi : i < Γ.length) (r : Rep K H Z t os v) (o : Own H Z (os ++ Os.flatten)) : Ok K H Z (Γ.set i (some t)) (Os.set i os) (σ.set i (some v)) := by
  refine ⟨by rw [List.length_set, List.length_set]; exact ok.ls, by rw [List.length_set, List.length_set]; exact ok.lo, fun j t' h => ?_, ?_, ok.zt⟩
  · by_cases e : i = j
    · subst e
      rw [List.getElem?_set_self hi] at h
      cases h
      exact ⟨v, List.getElem?_set_self (by rw [ok.ls]; exact hi), by rw [getD_set_self (by rw [ok.lo]; exact hi)]; exact r⟩
    · rw [List.getElem?_set_ne e] at h
      obtain ⟨w, h1, h2⟩ := ok.get j t' h
      exact ⟨w, by rw [List.getElem?_set_ne e]; exact h1, by rw [getD_set_ne e]; exact h2⟩
  · refine (o.sublist ?_).perm (flatten_put (by rw [ok.lo]; exact hi)).symm
    exact flatten_drop.append_left os
theorem Ok.put_sub {i : Nat} {os : List Addr} (hi : i < Os.length) : ∀ a ∈ (Os.set i os).flatten, a ∈ os ++ Os.flatten := fun a m => by
  have := (flatten_put hi).mem_iff.mp m
  rcases List.mem_append.mp this with h | h
  · exact List.mem_append_left _ h
  · exact List.mem_append_right _ (flatten_drop.subset h)
/-- a slot put back: its value in the frame is the same -/
theorem Ok.back {i : Nat} {t : T} {os : List Addr} {v : V} (ok : Ok K H Z Γ Os σ) (hi : i < Γ.length) (hv : σ[i]? = some (some v)) (r : Rep K H Z t os v) (o : Own H Z (os ++ Os.flatten)) : Ok K H Z (Γ.set i (some t)) (Os.set i os) σ := by
  have := ok.put hi r o
  have e : σ.set i (some v) = σ := by
    apply List.ext_getElem?
    intro j
    by_cases h : i = j
    · subst h
      rw [List.getElem?_set_self (by rw [ok.ls]; exact hi), hv]
    · rw [List.getElem?_set_ne h]
  rw [e] at this
  exact this
theorem Ok.lt (ok : Ok K H Z Γ Os σ) {i : Nat} {t : T} (h : Γ[i]? = some (some t)) : i < Γ.length := (List.getElem?_eq_some_iff.mp h).1
/-- all of os is frozen -/
theorem Ok.frz {os : List Addr} (ok : Ok K H Z Γ Os σ) (o : Own H Z (os ++ Os.flatten)) : Ok K H (fun a => Z a ∨ a ∈ os) Γ Os σ := by
  refine ⟨ok.ls, ok.lo, fun i t h => ?_, ⟨ok.own.nd, fun a m z => ?_, ok.own.tr⟩, fun a z => ?_⟩
  · obtain ⟨v, h1, h2⟩ := ok.get i t h
    exact ⟨v, h1, h2.keep (fun a z => .inl z) (fun a u _ q => q) t fun a _ u q => q⟩
  · rcases z with z | z
    · exact ok.own.nz a m z
    · exact o.apart z m
  · rcases z with z | z
    · exact ok.zt a z
    · exact o.tr a (List.mem_append_left _ z)
theorem Res.frz {os0 : List Addr} {H0 : Hp} {Z0 : Addr → Prop} {t : T} {v : V} {os : List Addr} (r : Res K os0 H0 Z0 σ t Γ v H Z Os os) : Res K os0 H0 Z0 σ (fz t) Γ v H (fun a => Z a ∨ a ∈ os) Os [] := by
  refine ⟨r.ok.frz r.own, r.rep.fz (fun a z => .inl z) t fun a m => .inr m, ?_, ?_⟩
  · exact (r.ok.frz r.own).own
  · refine ⟨r.ext.same, fun a z => .inl (r.ext.zz a z), fun a z => ?_, fun a m => r.ext.fr a (List.mem_append_right _ m)⟩
    rcases z with z | z
    · exact r.ext.zn a z
    · exact .inr (r.ext.fr a (List.mem_append_left _ z))
theorem Res.nilF {os0 : List Addr} {H0 : Hp} {Z0 : Addr → Prop} {t : T} {v : V} {os : List Addr} (r : Res K os0 H0 Z0 σ t Γ v H Z Os os) (f : isF t = true) : os = [] := r.rep.nil t f
end

section
variable {X : Cx} {Φ : Nat → Spec}
/-! ### names, constants -/
theorem ve_cp {i : Nat} {e : Expr} (h : PE X e (tVar i)) : PE X e (tV X.K (wpE Φ (.cp i))) := h.imp fun σ H Q ⟨Γ, Z, Os, Qt, ok, w, k⟩ => by
  simp only [wpE] at w
  obtain ⟨t, h1, h2, h3⟩ := w
  obtain ⟨v, h4, h5⟩ := ok.get i t h1
  have := h5.nil t h2
  rw [this] at h5
  exact ⟨v, h4, k t Γ v H Z Os [] h3 ⟨ok, h5, ok.own, Ext.refl⟩⟩
theorem ve_take {i : Nat} {e : Expr} (h : PE X e (tVar i)) : PE X e (tV X.K (wpE Φ (.take i))) := h.imp fun σ H Q ⟨Γ, Z, Os, Qt, ok, w, k⟩ => by
  simp only [wpE] at w
  obtain ⟨t, h1, h3⟩ := w
  obtain ⟨v, h4, h5⟩ := ok.get i t h1
  exact ⟨v, h4, k t _ v H Z _ _ h3 ⟨ok.drop i, h5, ok.out i, Ext.refl.sub fun a m => flatten_take.mem_iff.mp m⟩⟩
theorem ve_c {t : T} {v : V} {e : Expr} {E : E} (h : PE X e (tC v)) (hr : ∀ H Z, Rep X.K H Z t [] v) (hw : ∀ Γ Q, wpE Φ E Γ Q → Q t Γ) : PE X e (tV X.K (wpE Φ E)) := h.imp fun σ H Q ⟨Γ, Z, Os, Qt, ok, w, k⟩ =>
  k t Γ v H Z Os [] (hw _ _ w) ⟨ok, hr H Z, ok.own, Ext.refl⟩
theorem ve_fz {e : Expr} {E : E} (h : PE X e (tV X.K (wpE Φ E))) : PE X e (tV X.K (wpE Φ (.fz E))) := h.imp fun σ H Q ⟨Γ, Z, Os, Qt, ok, w, k⟩ => by
  simp only [wpE] at w
  exact ⟨Γ, Z, Os, _, ok, w, fun t Γ' v H' Z' Os' os q r => k (fz t) Γ' v H' _ Os' [] q r.frz⟩
/-! ### lists of expressions -/
theorem va_nil : PA X [] (tA X.K (wpEs Φ .nil)) := pa_nil.imp fun σ H Q ⟨Γ, Z, Os, Qt, ok, w, k⟩ => by
  simp only [wpEs] at w
  exact k [] Γ [] H Z Os [] w ⟨ok, by simp [Reps], ok.own, Ext.refl⟩
/-- one value, then a list -/
theorem Res.cons {K : PySem.W.Frag} {σ : L2.St} {os0 : List Addr} {H H1 H2 : Hp} {Z Z1 Z2 : Addr → Prop} {t : T} {ts : List T} {Γ1 Γ2 : Env} {v : V} {vs : List V} {Os1 Os2 : List (List Addr)} {o1 o2 : List Addr}
    (r : Res K os0 H Z σ t Γ1 v H1 Z1 Os1 o1) (r2 : Ress K Os1.flatten H1 Z1 σ ts Γ2 vs H2 Z2 Os2 o2) : Ress K os0 H Z σ (t :: ts) Γ2 (v :: vs) H2 Z2 Os2 (o1 ++ o2) := by
  refine ⟨r2.ok, ?_, ?_, ?_⟩
  · simp only [Reps]
    exact ⟨o1, o2, v, vs, rfl, rfl, r.rep.ext r2.ext r.own, r2.rep⟩
  · have := r.own.frame r2.ext r2.own
    rw [List.append_assoc]; exact this
  · refine r.ext.trans ?_
    rw [List.append_assoc]
    exact r2.ext.frame o1
theorem va_cons {e : Expr} {es : List Expr} {E : E} {Es : Es} (h : PE X e (tV X.K (wpE Φ E))) (hs : PA X es (tA X.K (wpEs Φ Es))) (hst : starEach (e :: es) X.env = (false, eval e X.env) :: starEach es X.env) : PA X (e :: es) (tA X.K (wpEs Φ (.cons E Es))) :=
  (pa_cons h hs hst).imp fun σ H Q ⟨Γ, Z, Os, Qt, ok, w, k⟩ => by
    simp only [wpEs] at w
    exact ⟨Γ, Z, Os, _, ok, w, fun t Γ1 v H1 Z1 Os1 o1 q1 r1 => ⟨Γ1, Z1, Os1, _, r1.ok, q1, fun ts Γ2 vs H2 Z2 Os2 o2 q2 r2 => k _ _ _ _ _ _ _ q2 (r1.cons r2)⟩⟩
/-! ### displays -/
theorem Ress.tup {K : PySem.W.Frag} {σ : L2.St} {os0 : List Addr} {H H' : Hp} {Z Z' : Addr → Prop} {ts : List T} {Γ' : Env} {vs : List V} {Os' : List (List Addr)} {os : List Addr} (r : Ress K os0 H Z σ ts Γ' vs H' Z' Os' os) {p : Addr} (np : H' p = none) :
    Res K os0 H Z σ (.tup ts) Γ' (.ref p) (upd H' p (.tup vs)) (fun a => Z' a ∨ a = p) Os' os := by
  obtain ⟨e, z⟩ := new_fz (o := HO.tup vs) np r.ok.zt
  have ow : Own (upd H' p (.tup vs)) (fun a => Z' a ∨ a = p) (os ++ Os'.flatten) := by
    have := Own.ext0 r.own e Own.nil
    simpa using this
  refine ⟨r.ok.ext0 e z, ?_, ow, ?_⟩
  · simp only [Rep]
    exact ⟨p, vs, rfl, ⟨.inr rfl, upd_same⟩, r.rep.keep e.zz (fun a u _ q => upd_keep np a u q) ts fun a _ u q => upd_keep np a u q⟩
  · refine r.ext.trans ?_
    have := e.frame (os ++ Os'.flatten)
    rw [List.append_nil] at this
    exact this
theorem Ress.lst {K : PySem.W.Frag} {σ : L2.St} {os0 : List Addr} {H H' : Hp} {Z Z' : Addr → Prop} {ts : List T} {Γ' : Env} {vs : List V} {Os' : List (List Addr)} {os : List Addr} (r : Ress K os0 H Z σ ts Γ' vs H' Z' Os' os) {p : Addr} (np : H' p = none) :
    Res K os0 H Z σ (.lst true ts) Γ' (.ref p) (upd H' p (.lst vs)) Z' Os' (p :: os) := by
  obtain ⟨e, o⟩ := new_own (o := HO.lst vs) np r.ok.zt
  refine ⟨r.ok.ext0 e (upd_zt r.ok.zt), ?_, ?_, ?_⟩
  · simp only [Rep]
    exact ⟨p, vs, rfl, os, rfl, upd_same, r.rep.keep e.zz (fun a u _ q => upd_keep np a u q) ts fun a _ u q => upd_keep np a u q⟩
  · have := Own.ext0 r.own e o
    exact this
  · refine r.ext.trans ?_
    have := e.frame (os ++ Os'.flatten)
    rw [List.append_nil] at this
    exact this.sub fun a m => by
      rcases List.mem_cons.mp m with m | m
      · exact List.mem_append_right _ (by rw [m]; simp)
      · exact List.mem_append_left _ m
theorem ve_tup {es : List Expr} {Es : Es} {x1 : Nat} {pos : Pos} (h : PA X es (tA X.K (wpEs Φ Es))) : PE X (.Tuple es x1 pos) (tV X.K (wpE Φ (.tup Es))) := (pe_tup h).imp fun σ H Q ⟨Γ, Z, Os, Qt, ok, w, k⟩ => by
  simp only [wpE] at w
  exact ⟨Γ, Z, Os, _, ok, w, fun ts Γ' vs H' Z' Os' os q r => ⟨by rw [← r.rep.length]; exact q.1, fun p np => k _ _ _ _ _ _ _ q.2 (r.tup np)⟩⟩
theorem ve_lst {es : List Expr} {Es : Es} {pos : Pos} (h : PA X es (tA X.K (wpEs Φ Es))) : PE X (.List es pos) (tV X.K (wpE Φ (.lst Es))) := (pe_lst h).imp fun σ H Q ⟨Γ, Z, Os, Qt, ok, w, k⟩ => by
  simp only [wpE] at w
  exact ⟨Γ, Z, Os, _, ok, w, fun ts Γ' vs H' Z' Os' os q r => ⟨by rw [← r.rep.length]; exact q.1, fun p np => k _ _ _ _ _ _ _ q.2 (r.lst np)⟩⟩
theorem ve_dic0 {pos : Pos} : PE X (.Dict [] [] pos) (tV X.K (wpE Φ .dic0)) := pe_dnewK.imp fun σ H Q ⟨Γ, Z, Os, Qt, ok, w, k⟩ p np => by
  simp only [wpE] at w
  obtain ⟨e, o⟩ := new_own (o := HO.dK []) np ok.zt
  have n : Nw X.K H Z (.dic true [] []) (.ref p) (upd H p (.dK [])) Z [p] := by
    refine ⟨?_, o, e, upd_zt ok.zt⟩
    simp only [Rep]
    exact ⟨p, [], rfl, [], rfl, .inl ⟨[], trivial, rfl, upd_same⟩, by simp [Reps]⟩
  exact k _ _ _ _ _ _ _ w (n.res ok Ext.refl)
/-! ### operators -/
/-- two values by an operation -/
theorem two {K : PySem.W.Frag} {w1 w2 : ME} {r : R2} {σ : L2.St} {H : Hp} {Q : VK} {Γ : Env} {Z : Addr → Prop} {Os : List (List Addr)} {p : T → T → Env → Prop} (ok : Ok K H Z Γ Os σ) (w : w1 Γ fun x Γ1 => w2 Γ1 fun y Γ2 => p x y Γ2)
    (h : ∀ x y Γ2 v u H2 Z2 Os2 o1 o2, p x y Γ2 → Ok K H2 Z2 Γ2 Os2 σ → Rep K H2 Z2 x o1 v → Rep K H2 Z2 y o2 u → Ext Os.flatten H Z H2 Z2 Os2.flatten → r v u H2 Q) : tV K w1 σ H fun v H1 => tV K w2 σ H1 fun u H2 => r v u H2 Q :=
  ⟨Γ, Z, Os, _, ok, w, fun x Γ1 v H1 Z1 Os1 o1 q1 r1 => ⟨Γ1, Z1, Os1, _, r1.ok, q1, fun y Γ2 u H2 Z2 Os2 o2 q2 r2 =>
    h x y Γ2 v u H2 Z2 Os2 o1 o2 q2 r2.ok (r1.rep.ext r2.ext r1.own) r2.rep (r1.exto.trans r2.exto)⟩⟩
theorem ve_op {o : Op} {a b : Expr} {A B : E} {pos : Pos} (ha : PE X a (tV X.K (wpE Φ A))) (hb : PE X b (tV X.K (wpE Φ B))) : PE X (.BinOp a (opA o) b pos) (tV X.K (wpE Φ (.op o A B))) :=
  (pe_op (opT o) ha hb).imp fun σ H Q ⟨Γ, Z, Os, Qt, ok, w, k⟩ => by
    simp only [wpE] at w
    exact two ok w fun x y Γ2 v u H2 Z2 Os2 o1 o2 q ok2 r1 r2 e => ⟨x, y, Z2, o1, o2, _, ok2.zt, r1, r2, q, fun z v' H' Z' os' qz n => k _ _ _ _ _ _ _ qz (n.res ok2 e)⟩
theorem ve_neg {a : Expr} {A : E} {pos : Pos} (ha : PE X a (tV X.K (wpE Φ A))) : PE X (.UnaryOp .USub a pos) (tV X.K (wpE Φ (.neg A))) :=
  (pe_un un_neg ha).imp fun σ H Q ⟨Γ, Z, Os, Qt, ok, w, k⟩ => by
    simp only [wpE] at w
    refine ⟨Γ, Z, Os, _, ok, w, fun x Γ1 v H1 Z1 Os1 o1 q1 r1 => ?_⟩
    obtain ⟨i, rfl, q⟩ := q1
    refine ⟨i, r1.rep.int_inv, k _ _ _ _ _ _ _ q ((Nw.scalar rep_int r1.ok.zt).res r1.ok r1.exto)⟩
/-! ### operands: a name that is looked at, or a value -/
def PRes (p : P) (K : PySem.W.Frag) (os0 : List Addr) (H : Hp) (Z : Addr → Prop) (σ : L2.St) (t : T) (Γ' : Env) (v : V) (H' : Hp) (Z' : Addr → Prop) (Os' : List (List Addr)) (os : List Addr) : Prop :=
  match p with
  | .tmp _ => Res K os0 H Z σ t Γ' v H' Z' Os' os
  | .var i => os = [] ∧ Ok K H' Z' Γ' Os' σ ∧ σ[i]? = some (some v) ∧ Γ'[i]? = some (some t) ∧ Ext os0 H Z H' Z' Os'.flatten
def tP (K : PySem.W.Frag) (p : P) (w : ME) : TE := fun σ H Q => ∃ Γ Z Os Qt, Ok K H Z Γ Os σ ∧ w Γ Qt ∧
  ∀ t Γ' v H' Z' Os' os, Qt t Γ' → PRes p K Os.flatten H Z σ t Γ' v H' Z' Os' os → Q v H'
section
variable {K : PySem.W.Frag} {os0 : List Addr} {H H1 H2 : Hp} {Z Z1 Z2 : Addr → Prop} {σ : L2.St} {t x' : T} {Γ1 Γ2 : Env} {v : V} {Os1 Os2 : List (List Addr)} {os : List Addr} {p : P}
theorem PRes.ok (r : PRes p K os0 H Z σ t Γ1 v H1 Z1 Os1 os) : Ok K H1 Z1 Γ1 Os1 σ := by
  cases p with
  | tmp e => exact Res.ok r
  | var i => exact r.2.1
theorem PRes.ext (r : PRes p K os0 H Z σ t Γ1 v H1 Z1 Os1 os) : Ext os0 H Z H1 Z1 Os1.flatten := by
  cases p with
  | tmp e => exact Res.exto r
  | var i => exact r.2.2.2.2
theorem PRes.rep (r : PRes p K os0 H Z σ t Γ1 v H1 Z1 Os1 os) : ∃ o, Rep K H1 Z1 t o v := by
  cases p with
  | tmp e => exact ⟨os, Res.rep r⟩
  | var i =>
    obtain ⟨_, ok, h1, h2, _⟩ := r
    obtain ⟨w, h3, h4⟩ := ok.get i t h2
    rw [h1] at h3
    cases h3
    exact ⟨_, h4⟩
/-- .. behind further steps -/
theorem PRes.later (r : PRes p K os0 H Z σ t Γ1 v H1 Z1 Os1 os) (ok2 : Ok K H2 Z2 Γ2 Os2 σ) (e : Ext Os1.flatten H1 Z1 H2 Z2 Os2.flatten) (l : look p t Γ2 x') : ∃ o, Rep K H2 Z2 x' o v := by
  cases p with
  | tmp e' =>
    have l : x' = t := l
    subst l
    exact ⟨os, (Res.rep r).ext e (Res.own r)⟩
  | var i =>
    obtain ⟨_, ok, h1, h2, _⟩ := r
    obtain ⟨w, h3, h4⟩ := ok2.get i x' l
    rw [h1] at h3
    cases h3
    exact ⟨_, h4⟩
end
theorem vp_var {i : Nat} {e : Expr} (h : PE X e (tVar i)) : PE X e (tP X.K (.var i) (wpP Φ (.var i))) := h.imp fun σ H Q ⟨Γ, Z, Os, Qt, ok, w, k⟩ => by
  simp only [wpP] at w
  obtain ⟨t, h1, h3⟩ := w
  obtain ⟨v, h4, h5⟩ := ok.get i t h1
  exact ⟨v, h4, k t Γ v H Z Os [] h3 ⟨rfl, ok, h4, h1, Ext.refl⟩⟩
theorem vp_tmp {e : Expr} {E : E} (h : PE X e (tV X.K (wpE Φ E))) : PE X e (tP X.K (.tmp E) (wpP Φ (.tmp E))) := h.imp fun σ H Q ⟨Γ, Z, Os, Qt, ok, w, k⟩ => by
  simp only [wpP] at w
  exact ⟨Γ, Z, Os, Qt, ok, w, k⟩
/-- two operands -/
theorem twoP {K : PySem.W.Frag} {a b : P} {w1 w2 : ME} {σ : L2.St} {H : Hp} {Γ : Env} {Z : Addr → Prop} {Os : List (List Addr)} {p : T → T → Env → Prop} {R : V → V → Hp → Prop} (ok : Ok K H Z Γ Os σ) (w : w1 Γ fun x Γ1 => w2 Γ1 fun y Γ2 => ∃ x', look a x Γ2 x' ∧ p x' y Γ2)
    (h : ∀ x y Γ2 v u H2 Z2 Os2 o1 o2, p x y Γ2 → Ok K H2 Z2 Γ2 Os2 σ → Rep K H2 Z2 x o1 v → Rep K H2 Z2 y o2 u → Ext Os.flatten H Z H2 Z2 Os2.flatten → R v u H2) : tP K a w1 σ H fun v H1 => tP K b w2 σ H1 fun u H2 => R v u H2 :=
  ⟨Γ, Z, Os, _, ok, w, fun x Γ1 v H1 Z1 Os1 o1 q1 r1 => ⟨Γ1, Z1, Os1, _, r1.ok, q1, fun y Γ2 u H2 Z2 Os2 o2 q2 r2 => by
    obtain ⟨x', l, q⟩ := q2
    obtain ⟨o, s1⟩ := r1.later r2.ok r2.ext l
    obtain ⟨o', s2⟩ := r2.rep
    exact h x' y Γ2 v u H2 Z2 Os2 o o' q r2.ok s1 s2 (r1.ext.trans r2.ext)⟩⟩
theorem ve_cmp (hu : X.A.units + 65 < cLine) {r : Rl} {a b : Expr} {A B : P} {pos : Pos} (ha : PE X a (tP X.K A (wpP Φ A))) (hb : PE X b (tP X.K B (wpP Φ B))) (hm : behindInMarks (rlA r) b = false) :
    PE X (.Compare a [rlA r] [b] pos) (tV X.K (wpE Φ (.cmp r A B))) := (pe_cmpR (opB hu r) ha hb hm).imp fun σ H Q ⟨Γ, Z, Os, Qt, ok, w, k⟩ => by
  simp only [wpE] at w
  exact twoP ok w fun x y Γ2 v u H2 Z2 Os2 o1 o2 q ok2 r1 r2 e => ⟨x, y, Z2, o1, o2, _, ok2.zt, r1, r2, q, fun c qc => k _ _ _ _ _ _ _ qc ((Nw.scalar rep_bl ok2.zt).res ok2 e)⟩
theorem vt_cmp (hu : X.A.units + 65 < cLine) {r : Rl} {a b : Expr} {A B : P} {pos : Pos} (ha : PE X a (tP X.K A (wpP Φ A))) (hb : PE X b (tP X.K B (wpP Φ B))) (hm : behindInMarks (rlA r) b = false) :
    PT X (.Compare a [rlA r] [b] pos) (tQ X.K (wpC Φ (.cmp r A B))) := (pt_cmpR (opB hu r) ha hb hm).imp fun σ H Q ⟨Γ, Z, Os, Qt, ok, w, k⟩ => by
  simp only [wpC] at w
  exact twoP ok w fun x y Γ2 v u H2 Z2 Os2 o1 o2 q ok2 r1 r2 e => ⟨x, y, Z2, o1, o2, _, ok2.zt, r1, r2, q, fun c qc => ⟨c, rfl, k _ _ _ _ _ qc ok2 e⟩⟩
/-- three values in a chain -/
theorem three {r1 r2 : Rl} {w1 w2 w3 : ME} {σ : L2.St} {H : Hp} {Q : VK} {Γ : Env} {Z : Addr → Prop} {Os : List (List Addr)} {Qt : Bool → Env → Prop} (ok : Ok X.K H Z Γ Os σ)
    (w : w1 Γ fun x Γ1 => w2 Γ1 fun y Γ2 => isF y = true ∧ rlP r1 x y fun c1 => if c1 = true then w3 Γ2 fun z Γ3 => rlP r2 y z fun c2 => Qt c2 Γ3 else Qt false Γ2)
    (k : ∀ b Γ' H' Z' Os', Qt b Γ' → Ok X.K H' Z' Γ' Os' σ → Ext Os.flatten H Z H' Z' Os'.flatten → Q (.bl b) H') : tChain (r2B X.K (rlP r1)) (r2B X.K (rlP r2)) (tV X.K w1) (tV X.K w2) (tV X.K w3) σ H Q := by
  refine ⟨Γ, Z, Os, _, ok, w, fun x Γ1 v H1 Z1 Os1 o1 q1 s1 => ⟨Γ1, Z1, Os1, _, s1.ok, q1, fun y Γ2 u H2 Z2 Os2 o2 q2 s2 => ?_⟩⟩
  obtain ⟨f, q2⟩ := q2
  refine ⟨x, y, Z2, o1, o2, _, s2.ok.zt, s1.rep.ext s2.ext s1.own, s2.rep, q2, fun c1 qc => ⟨c1, rfl, ?_⟩⟩
  cases c1 with
  | false => exact k _ _ _ _ _ qc s2.ok (s1.exto.trans s2.exto)
  | true =>
    refine ⟨Γ2, Z2, Os2, _, s2.ok, qc, fun z Γ3 u3 H3 Z3 Os3 o3 q3 s3 => ?_⟩
    refine ⟨y, z, Z3, o2, o3, _, s3.ok.zt, ?_, s3.rep, q3, fun c2 qc2 => k _ _ _ _ _ qc2 s3.ok ((s1.exto.trans s2.exto).trans s3.exto)⟩
    exact s2.rep.ext s3.ext s2.own
theorem ve_chain (hu : X.A.units + 65 < cLine) {r1 r2 : Rl} {a b c : Expr} {A B C : E} {pos : Pos} (ha : PE X a (tV X.K (wpE Φ A))) (hb : PE X b (tV X.K (wpE Φ B))) (hc : PE X c (tV X.K (wpE Φ C))) (hm : lastMarks [rlA r1, rlA r2] [b, c] = false) :
    PE X (.Compare a [rlA r1, rlA r2] [b, c] pos) (tV X.K (wpE Φ (.chain r1 r2 A B C))) := (pe_chain (opB hu r1) (opB hu r2) ha hb hc hm).imp fun σ H Q ⟨Γ, Z, Os, Qt, ok, w, k⟩ => by
  simp only [wpE] at w
  exact three (Qt := fun b Γ => Qt (.bl b) Γ) ok w fun b Γ' H' Z' Os' q ok' e => k _ _ _ _ _ _ _ q ((Nw.scalar rep_bl ok'.zt).res ok' e)
theorem tChain_bl {r r' : R2} {ta tb tc : TE} {σ : L2.St} {H : Hp} {Q : Bool → Hp → Prop} (h : tChain r r' ta tb tc σ H fun v H' => ∃ k, v = .bl k ∧ Q k H') : tTest (tChain r r' ta tb tc) σ H Q := h
theorem vt_chain (hu : X.A.units + 65 < cLine) {r1 r2 : Rl} {a b c : Expr} {A B C : E} {pos : Pos} (ha : PE X a (tV X.K (wpE Φ A))) (hb : PE X b (tV X.K (wpE Φ B))) (hc : PE X c (tV X.K (wpE Φ C))) (hm : lastMarks [rlA r1, rlA r2] [b, c] = false) :
    PT X (.Compare a [rlA r1, rlA r2] [b, c] pos) (tQ X.K (wpC Φ (.chain r1 r2 A B C))) := (pt_chain (opB hu r1) (opB hu r2) ha hb hc hm).imp fun σ H Q ⟨Γ, Z, Os, Qt, ok, w, k⟩ => by
  simp only [wpC] at w
  exact tChain_bl (three (Qt := Qt) ok w fun b Γ' H' Z' Os' q ok' e => ⟨b, rfl, k _ _ _ _ _ q ok' e⟩)
/-! ### truth -/
theorem tru_of {H : Hp} {Z : Addr → Prop} {t : T} {os : List Addr} {v : V} {c : Bool} (r : Rep X.K H Z t os v) (h : tru t = some c) : TruV X.K v H c := by
  cases t <;> simp only [tru, Option.some.injEq, reduceCtorEq] at h <;> subst h
  · cases r.non_inv; rfl
  · cases r.bl_inv; rfl
  · cases r.int_inv; rfl
  · obtain ⟨a, vs, rfl, f, rs⟩ := r.tup_inv
    refine .inr (.inl ⟨vs, f.sq, ?_⟩)
    have := rs.length
    rename_i xs
    cases xs <;> cases vs <;> simp_all
  · obtain ⟨a, vs, os', rfl, f, rs⟩ := r.lst_any
    refine .inl ⟨vs, .inl f, ?_⟩
    have := rs.length
    rename_i xs
    cases xs <;> cases vs <;> simp_all
theorem ve_nott {a : Expr} {A : P} {pos : Pos} (ha : PE X a (tP X.K A (wpP Φ A))) : PE X (.UnaryOp .Not a pos) (tV X.K (wpE Φ (.nott A))) := (pe_notT ha).imp fun σ H Q ⟨Γ, Z, Os, Qt, ok, w, k⟩ => by
  simp only [wpE] at w
  refine ⟨Γ, Z, Os, _, ok, w, fun x Γ1 v H1 Z1 Os1 o1 q1 s1 => ?_⟩
  obtain ⟨c, hc, q⟩ := q1
  obtain ⟨o, r⟩ := s1.rep
  exact ⟨c, tru_of r hc, k _ _ _ _ _ _ _ q ((Nw.scalar rep_bl s1.ok.zt).res s1.ok s1.ext)⟩
theorem vt_val {a : Expr} {A : P} (ha : PE X a (tP X.K A (wpP Φ A))) (he : ∀ whole, isTrue a X.env whole = (do let v ← whole; standAt a.pos; holding [v] (truthy v))) : PT X a (tQ X.K (wpC Φ (.val A))) := (pt_truth ha he).imp fun σ H Q ⟨Γ, Z, Os, Qt, ok, w, k⟩ => by
  simp only [wpC] at w
  refine ⟨Γ, Z, Os, _, ok, w, fun x Γ1 v H1 Z1 Os1 o1 q1 s1 => ?_⟩
  obtain ⟨c, hc, q⟩ := q1
  obtain ⟨o, r⟩ := s1.rep
  exact ⟨c, tru_of r hc, k _ _ _ _ _ q s1.ok s1.ext⟩
theorem vt_not {a : Expr} {A : C} {pos : Pos} (ha : PT X a (tQ X.K (wpC Φ A))) : PT X (.UnaryOp .Not a pos) (tQ X.K (wpC Φ (.not A))) := (pt_not ha).imp fun σ H Q ⟨Γ, Z, Os, Qt, ok, w, k⟩ => by
  simp only [wpC] at w
  exact ⟨Γ, Z, Os, _, ok, w, fun c Γ1 H1 Z1 Os1 q1 ok1 e1 => k _ _ _ _ _ q1 ok1 e1⟩
/-- a chain of and, or as a test, whatever its 'whole' -/
theorem _root_.L2.PW.imp {X : Cx} {e : Expr} {t t' : TT} (h : PW X e t) (i : ∀ σ H Q, t' σ H Q → t σ H Q) : PW X e t' := ⟨fun whole pins s σ H Q I q => h.run whole pins s σ H Q I (i _ _ _ q)⟩
theorem vw_and {a b : Expr} {rest : List Expr} {A B : C} {pos : Pos} (ha : PT X a (tQ X.K (wpC Φ A))) (hb : PW X (.BoolOp .And (b :: rest) pos) (tQ X.K (wpC Φ B))) : PW X (.BoolOp .And (a :: b :: rest) pos) (tQ X.K (wpC Φ (.and A B))) := (pw_and ha hb).imp fun σ H Q ⟨Γ, Z, Os, Qt, ok, w, k⟩ => by
  simp only [wpC] at w
  refine ⟨Γ, Z, Os, _, ok, w, fun c Γ1 H1 Z1 Os1 q1 ok1 e1 => ?_⟩
  cases c with
  | false => exact k _ _ _ _ _ q1 ok1 e1
  | true => exact ⟨Γ1, Z1, Os1, _, ok1, q1, fun c2 Γ2 H2 Z2 Os2 q2 ok2 e2 => k _ _ _ _ _ q2 ok2 (e1.trans e2)⟩
theorem vw_or {a b : Expr} {rest : List Expr} {A B : C} {pos : Pos} (ha : PT X a (tQ X.K (wpC Φ A))) (hb : PW X (.BoolOp .Or (b :: rest) pos) (tQ X.K (wpC Φ B))) : PW X (.BoolOp .Or (a :: b :: rest) pos) (tQ X.K (wpC Φ (.or A B))) := (pw_or ha hb).imp fun σ H Q ⟨Γ, Z, Os, Qt, ok, w, k⟩ => by
  simp only [wpC] at w
  refine ⟨Γ, Z, Os, _, ok, w, fun c Γ1 H1 Z1 Os1 q1 ok1 e1 => ?_⟩
  cases c with
  | true => exact k _ _ _ _ _ q1 ok1 e1
  | false => exact ⟨Γ1, Z1, Os1, _, ok1, q1, fun c2 Γ2 H2 Z2 Os2 q2 ok2 e2 => k _ _ _ _ _ q2 ok2 (e1.trans e2)⟩
theorem ve_and {a b : Expr} {rest : List Expr} {A B : E} {pos : Pos} (ha : PE X a (tV X.K (wpE Φ A))) (hb : PE X (.BoolOp .And (b :: rest) pos) (tV X.K (wpE Φ B))) : PE X (.BoolOp .And (a :: b :: rest) pos) (tV X.K (wpE Φ (.and A B))) := (pe_and ha hb).imp fun σ H Q ⟨Γ, Z, Os, Qt, ok, w, k⟩ => by
  simp only [wpE] at w
  refine ⟨Γ, Z, Os, _, ok, w, fun x Γ1 v H1 Z1 Os1 o1 q1 s1 => ?_⟩
  obtain ⟨c, rfl, q⟩ := q1
  refine ⟨c, s1.rep.bl_inv, ?_⟩
  cases c with
  | false => exact k _ _ _ _ _ _ _ q ((Nw.scalar rep_bl s1.ok.zt).res s1.ok s1.exto)
  | true => exact ⟨Γ1, Z1, Os1, _, s1.ok, q, fun c2 Γ2 u H2 Z2 Os2 o2 q2 s2 => k _ _ _ _ _ _ _ q2 ⟨s2.ok, s2.rep, s2.own, s1.exto.trans s2.ext⟩⟩
theorem ve_or {a b : Expr} {rest : List Expr} {A B : E} {pos : Pos} (ha : PE X a (tV X.K (wpE Φ A))) (hb : PE X (.BoolOp .Or (b :: rest) pos) (tV X.K (wpE Φ B))) : PE X (.BoolOp .Or (a :: b :: rest) pos) (tV X.K (wpE Φ (.or A B))) := (pe_or ha hb).imp fun σ H Q ⟨Γ, Z, Os, Qt, ok, w, k⟩ => by
  simp only [wpE] at w
  refine ⟨Γ, Z, Os, _, ok, w, fun x Γ1 v H1 Z1 Os1 o1 q1 s1 => ?_⟩
  obtain ⟨c, rfl, q⟩ := q1
  refine ⟨c, s1.rep.bl_inv, ?_⟩
  cases c with
  | true => exact k _ _ _ _ _ _ _ q ((Nw.scalar rep_bl s1.ok.zt).res s1.ok s1.exto)
  | false => exact ⟨Γ1, Z1, Os1, _, s1.ok, q, fun c2 Γ2 u H2 Z2 Os2 o2 q2 s2 => k _ _ _ _ _ _ _ q2 ⟨s2.ok, s2.rep, s2.own, s1.exto.trans s2.ext⟩⟩
theorem ve_ifx {c a b : Expr} {C : C} {A B : E} {pos : Pos} (hc : PT X c (tQ X.K (wpC Φ C))) (ha : PE X a (tV X.K (wpE Φ A))) (hb : PE X b (tV X.K (wpE Φ B))) : PE X (.IfExp c a b pos) (tV X.K (wpE Φ (.ifx C A B))) := (pe_ifExp hc ha hb).imp fun σ H Q ⟨Γ, Z, Os, Qt, ok, w, k⟩ => by
  simp only [wpE] at w
  refine ⟨Γ, Z, Os, _, ok, w, fun c Γ1 H1 Z1 Os1 q1 ok1 e1 => ?_⟩
  cases c with
  | true => exact ⟨Γ1, Z1, Os1, _, ok1, q1, fun t Γ2 u H2 Z2 Os2 o2 q2 s2 => k _ _ _ _ _ _ _ q2 ⟨s2.ok, s2.rep, s2.own, e1.trans s2.ext⟩⟩
  | false => exact ⟨Γ1, Z1, Os1, _, ok1, q1, fun t Γ2 u H2 Z2 Os2 o2 q2 s2 => k _ _ _ _ _ _ _ q2 ⟨s2.ok, s2.rep, s2.own, e1.trans s2.ext⟩⟩
end
end PL

end
section
set_option maxHeartbeats 4000000
/-! PN: sets over any kind of keys that stand in the heap (a HeapKind), by the library's theory of the table. -/
namespace PLN
open PySem PySem.Spec L2
open PyProof.Rows hiding St
section
variable {P : Program} {w : World} {A : Around} {E : Value → Shared → Prop} {s : Shared} {κ : Type} [DecidableEq κ]
/-- what a set asks of a kind of keys beside its hash and its == -/
structure SK (G : HeapKind P w κ) : Prop where
  plainCls : ∀ {A : Around} {E : Value → Shared → Prop} {s : Shared} {k : κ} {b : Addr} {Q : Bool → Shared → Prop}, G.is s.heap k b → Q false s → wpAny (model P w) A (ofAClassStatement 8 (.ref b)) Q E s
  byVal : ∀ {A : Around} {E : Value → Shared → Prop} {s : Shared} {k : κ} {b : Addr} {Q : Bool → Shared → Prop}, G.is s.heap k b → Q true s → wpAny (model P w) A (hashByValue 8 (.ref b)) Q E s
  stays : ∀ {h h' : Heap} {k : κ} {b a : Addr} {o : Obj} {es : Array (Int × Value)} {ep : Nat} {t : SetTable}, G.is h k b → h.get? a = some o → o.data = .set es ep t → Heap.SameBut a h h' → G.is h' k b
  grows : ∀ {h h' : Heap} {k : κ} {b : Addr}, G.is h k b → (∀ c o, h.get? c = some o → h'.get? c = some o) → G.is h' k b
variable {G : HeapKind P w κ}
/-- the keys that are in, as the table's rows -/
def rws (G : HeapKind P w κ) (L : List (Addr × κ)) : List (Int × Value) := L.map fun q => (G.hash q.2, Value.ref q.1)
theorem rws_len (L : List (Addr × κ)) : (rws G L).length = L.length := by unfold rws; rw [List.length_map]
structure SetG (G : HeapKind P w κ) (h : Heap) (a : Addr) (L : List (Addr × κ)) (es : Array (Int × Value)) (ep : Nat) (t : SetTable) : Prop where
  obj : ∃ o, h.get? a = some o ∧ o.ExactSet ∧ o.data = .set es ep t
  row : es.toList = rws G L
  tb : TabOk t (L.map fun q => G.hash q.2)
  dif : (L.map (·.2)).Nodup
  key : ∀ q ∈ L, G.is h q.2 q.1
  pl : t.plain = true
  ld : w.params.followText "set-order" = true ∨ t.led = true
  rm : L.length * 5 < t.mask * 3
  few : L.length < 64
variable {a : Addr} {L : List (Addr × κ)} {es : Array (Int × Value)} {ep : Nat} {t : SetTable}
theorem SetG.size (R : SetG G s.heap a L es ep t) : es.size = L.length := by
  rw [← Array.length_toList, R.row, rws_len]
theorem SetG.psz (R : SetG G s.heap a L es ep t) : t.place.toList.length = L.length := by
  have := R.tb.sz
  rw [List.length_map] at this
  rw [Array.length_toList, this]
theorem SetG.fit (R : SetG G s.heap a L es ep t) : t.fits es.size = true := by
  have p := R.psz
  rw [Array.length_toList] at p
  have r := R.rm
  have z := R.size
  simp only [SetTable.fits, SetTable.fill, R.tb.dm, Bool.and_eq_true, beq_iff_eq, decide_eq_true_eq]
  exact ⟨by omega, by show t.place.size + 0 ≤ t.mask; omega⟩
theorem SetG.ent (R : SetG G s.heap a L es ep t) {i : Nat} {q : Addr × κ} (h : L[i]? = some q) : es[i]? = some (G.hash q.2, Value.ref q.1) := by
  have : es.toList[i]? = some (G.hash q.2, Value.ref q.1) := by
    rw [R.row]
    show (L.map _)[i]? = _
    rw [List.getElem?_map, h]
    rfl
  rwa [Array.getElem?_toList] at this
theorem SetG.noGw (R : SetG G s.heap a L es ep t) : t.gaveWay = false := by
  have := mask_odd R.tb.mok
  simp [SetTable.gaveWay, this]
/-- asking shows nothing -/
theorem unseen_keys (g : SK G) {k : κ} {b : Addr} {Q : Bool → Shared → Prop} (hk : G.is s.heap k b) {ys : List Value} (hy : ∀ y ∈ ys, ∃ k' c, y = Value.ref c ∧ G.is s.heap k' c) (h : Q false s) : wpAny (model P w) A (searchCouldBeSeen (.ref b) ys) Q E s := by
  unfold searchCouldBeSeen
  refine wpAny_bind (wpAny_forIn_list _ (fun rest r s' => r.1 = none ∧ s' = s ∧ ∀ y ∈ rest, ∃ k' c, y = Value.ref c ∧ G.is s.heap k' c) _ ?_ ?_ _ _ ⟨rfl, rfl, hy⟩)
  · rintro v rest r s' ⟨_, rfl, hall⟩
    obtain ⟨k', c, rfl, hc⟩ := hall v List.mem_cons_self
    have more : ∀ y ∈ rest, ∃ k' c, y = Value.ref c ∧ G.is s'.heap k' c := fun y h => hall y (List.mem_cons_of_mem _ h)
    dsimp only
    by_cases same : (b == c || (carriedByValue (.ref b) && carriedByValue (.ref c))) = true
    · exact wp_if_pos same (wpAny_pure ⟨rfl, rfl, more⟩)
    · refine wp_if_neg same (wpAny_bind (G.quiet hk ?_))
      simp only [Bool.not_true, Bool.false_eq_true, if_false]
      refine wpAny_bind (G.quiet hc ?_)
      simp only [Bool.not_true, Bool.false_eq_true, if_false]
      refine wpAny_bind (g.plainCls hk ?_)
      simp only [Bool.false_eq_true, if_false]
      refine wpAny_bind (g.plainCls hc ?_)
      simp only [Bool.false_eq_true, if_false]
      exact wpAny_pure ⟨rfl, rfl, more⟩
  · rintro ⟨r1, r2⟩ s' ⟨e, rfl, _⟩
    cases e
    exact wpAny_pure h
/-- the way of a hash through the table -/
abbrev pr0 (t : SetTable) (h : Int) : SetTable.Probe := runAt t.mask (SetTable.bits h % (t.mask + 1)) (SetTable.bits h)
theorem nth_dummy (m : Nat) : ∀ (n : Nat) (p : SetTable.Probe), p.dummy = none → (nth m p n).dummy = none
  | 0, _, h => h
  | n + 1, p, h => nth_dummy m n (adv m p) (by unfold adv; split <;> exact h)
theorem nth_way (t : SetTable) (h : Int) (c q : Nat) : (nth t.mask (nth t.mask (pr0 t h) c) q).j = way t.mask h (c + q) := congrArg SetTable.Probe.j (nth_add t.mask c _ q).symm
theorem seek (g : SK G) (R : SetG G s.heap a L es ep t) {x : Addr} {k : κ} (hx : G.is s.heap k x) (hu : G.room A) {K : Nat} (hKf : K < 10 * SetTable.turns t.mask) (hK : way t.mask (G.hash k) K ∉ t.place.toList) (hKb : ∀ c, c < K → way t.mask (G.hash k) c ∈ t.place.toList)
    {Q : SetFound → Shared → Prop} (yes : k ∈ L.map (·.2) → Q (.there none) s) (no : k ∉ L.map (·.2) → Q (.free (way t.mask (G.hash k) K) false) s) :
    ∀ (f c : Nat) (st : Option SetTable.Probe), st.getD (t.probeStart (G.hash k)) = nth t.mask (pr0 t (G.hash k)) c → c ≤ K → K - c < f → (∀ (i : Nat) q, L[i]? = some q → q.2 = k → ∃ c', c ≤ c' ∧ c' < K ∧ t.place.toList[i]? = some (way t.mask (G.hash k) c')) →
      wpAny (model P w) A (setSearchFrom a (.ref x) (G.hash k) true f st) Q E s := by
  intro f
  induction f with
  | zero => intro c st _ _ h; omega
  | succ f ih =>
    intro c st hst hc hf hre
    obtain ⟨o, ho, hex, hd⟩ := R.obj
    have hashAt : ∀ (i : Nat) q, L[i]? = some q → (fun i => (es[i]?.map (·.1)).getD 0) i = G.hash q.2 := fun i q hq => by
      simp only [R.ent hq]
      rfl
    have spec := go_spec t R.tb.ris R.tb.dm (fun i => (es[i]?.map (·.1)).getD 0) (G.hash k) (10 * SetTable.turns t.mask) (K - c) (nth t.mask (pr0 t (G.hash k)) c) (nth_dummy _ _ _ rfl) (by omega)
      (fun q hq => by rw [nth_way]; exact hKb _ (by omega)) (by rw [nth_way, show c + (K - c) = K by omega]; exact hK)
    rw [setSearchFrom_succ]
    refine wpAny_bind (wpAny_setState_of ho hd R.fit ?_)
    dsimp only
    refine wp_if_neg (by rw [R.noGw]; decide) ?_
    rcases spec with ⟨q, i, hq, hi, hh, hno, hpr⟩ | ⟨hno, hpr⟩
    · rw [show t.probe (fun i => (es[i]?.map (·.1)).getD 0) (G.hash k) (st.getD (t.probeStart (G.hash k))) = some (.candidate (way t.mask (G.hash k) (c + q)) i (nth t.mask (pr0 t (G.hash k)) (c + (q + 1)))) by
        rw [hst, ← nth_way, nth_add t.mask c _ (q + 1)]
        exact hpr]
      dsimp only
      rw [nth_way] at hi
      have hil : i < L.length := by
        have := (List.getElem?_eq_some_iff.mp hi).1
        rw [R.psz] at this
        exact this
      have hp : L[i]? = some L[i] := List.getElem?_eq_getElem hil
      generalize L[i] = p at hp
      have pm : p ∈ L := List.mem_of_getElem? hp
      have live : t.slot (way t.mask (G.hash k) (c + q)) = .live i := slot_live R.tb.ris hi
      have go : wpAny (model P w) A (searchRest a (.ref x) (G.hash k) true f es t (way t.mask (G.hash k) (c + q)) i (nth t.mask (pr0 t (G.hash k)) (c + (q + 1)))) Q E s := by
        unfold searchRest
        rw [R.ent hp]
        dsimp only
        refine wpAny_bind (wpAny_holding (G.eqBool hu (R.key p pm) hx ?_))
        refine wpAny_bind (wpAny_setState_of ho hd R.fit ?_)
        dsimp only
        by_cases hkk : p.2 = k
        · exact wp_if_pos (by simp [hkk]) (wpAny_pure (yes (List.mem_map.mpr ⟨p, pm, hkk⟩)))
        · refine wp_if_neg (by simp [hkk]) ?_
          rw [sameMem]
          dsimp only
          simp only [if_true, live, R.ent hp]
          refine wpAny_bind (wpAny_isSame_ref_self (wpAny_bind (wpAny_pure ?_)))
          simp only [if_true]
          refine wp_if_neg (by simp [hkk]) (ih (c + (q + 1)) _ rfl (by omega) (by omega) fun i0 p0 h0 hk0 => ?_)
          obtain ⟨c', a1, a2, a3⟩ := hre i0 p0 h0 hk0
          refine ⟨c', ?_, a2, a3⟩
          have hh0 := (hashAt i0 p0 h0).trans (congrArg G.hash hk0)
          by_cases z : c' < c + q
          · exact absurd hh0 (hno (c' - c) i0 (by omega) (by rw [nth_way, show c + (c' - c) = c' by omega]; exact a3))
          · by_cases y : c' = c + q
            · exfalso
              rw [y] at a3
              have l2 := slot_live R.tb.ris a3
              rw [live] at l2
              cases l2
              rw [hp] at h0
              cases h0
              exact hkk hk0
            · omega
      by_cases hl : t.led = true
      · exact wp_if_neg (by simp [hl]) go
      · refine wp_if_pos (by simp [hl]) (wpAny_bind (unseen_keys g hx (fun y hy => ?_) (wp_if_neg (by decide) go)))
        obtain ⟨e, he, rfl⟩ := List.mem_map.mp hy
        have he2 : e ∈ es.toList := by
          have : e ∈ es ∧ e.1 = G.hash k := by simpa using he
          simpa using this.1
        rw [R.row] at he2
        obtain ⟨p2, hp2, rfl⟩ := List.mem_map.mp he2
        exact ⟨p2.2, p2.1, rfl, R.key p2 hp2⟩
    · rw [show t.probe (fun i => (es[i]?.map (·.1)).getD 0) (G.hash k) (st.getD (t.probeStart (G.hash k))) = some (.empty (way t.mask (G.hash k) K) none) by
        rw [hst, show way t.mask (G.hash k) K = (nth t.mask (nth t.mask (pr0 t (G.hash k)) c) (K - c)).j by rw [nth_way, show c + (K - c) = K by omega]]
        exact hpr]
      dsimp only
      refine wpAny_pure (no fun hm => ?_)
      obtain ⟨p0, h0, hk0⟩ := List.mem_map.mp hm
      obtain ⟨i0, h00⟩ := List.mem_iff_getElem?.mp h0
      obtain ⟨c', a1, a2, a3⟩ := hre i0 p0 h00 hk0
      exact hno (c' - c) i0 (by omega) (by rw [nth_way, show c + (c' - c) = c' by omega]; exact a3) ((hashAt i0 p0 h00).trans (congrArg G.hash hk0))
theorem seek_at (g : SK G) (R : SetG G s.heap a L es ep t) {x : Addr} {k : κ} (hx : G.is s.heap k x) (hu : G.room A) {Q : SetFound → Shared → Prop} (yes : k ∈ L.map (·.2) → Q (.there none) s)
    (no : ∀ K, k ∉ L.map (·.2) → way t.mask (G.hash k) K ∉ t.place.toList → (∀ c, c < K → way t.mask (G.hash k) c ∈ t.place.toList) → Q (.free (way t.mask (G.hash k) K) false) s) : wpAny (model P w) A (setSearch a (.ref x) (G.hash k) true) Q E s := by
  have rm := R.rm
  obtain ⟨K, hKf, hK, hKb⟩ := R.tb.first (by rw [List.length_map]; omega) (G.hash k)
  have big : K < 100000 := by
    have : 10 * SetTable.turns t.mask ≤ 1420 := by
      unfold SetTable.turns
      rcases R.tb.mok with e | e | e <;> omega
    omega
  unfold setSearch
  refine seek g R hx hu hKf hK hKb yes (fun n => no K n hK hKb) 100000 0 none rfl (Nat.zero_le _) (by omega) fun i q hq hk => ?_
  have hi : (L.map fun q => G.hash q.2)[i]? = some (G.hash k) := by
    rw [List.getElem?_map, hq, ← hk]
    rfl
  have hil : i < t.place.toList.length := by rw [R.psz]; exact (List.getElem?_eq_some_iff.mp hq).1
  obtain ⟨c, hc, e⟩ := R.tb.before hK hi (List.getElem?_eq_getElem hil)
  exact ⟨c, Nat.zero_le _, hc, by rw [List.getElem?_eq_getElem hil, e]⟩
theorem rws_cut (L : List (Addr × κ)) (n : Nat) (x : Addr) (k : κ) : rws G (L.take n ++ (x, k) :: L.drop n) = (rws G L).take n ++ (G.hash k, Value.ref x) :: (rws G L).drop n := by
  simp only [rws, List.map_append, List.map_cons, List.map_take, List.map_drop]
theorem cut_perm {α : Type} (L : List α) (n : Nat) (x : α) : (L.take n ++ x :: L.drop n).Perm (x :: L) := by
  have h := List.perm_middle (a := x) (l₁ := L.take n) (l₂ := L.drop n)
  rwa [List.take_append_drop] at h
/-- rows in another sequence -/
theorem rws_order (L : List (Addr × κ)) (es : Array (Int × Value)) (od : Array Nat) (hr : es.toList = rws G L) (hp : od.toList.Perm (List.range L.length)) :
    ∃ M, (od.filterMap (es[·]?)).toList = rws G M ∧ M.Perm L ∧ (M.map fun q => G.hash q.2) = od.toList.map fun i => (es.map (·.1)).getD i 0 := by
  have ent : ∀ i (h : i < L.length), es[i]? = some (G.hash (L[i]).2, Value.ref (L[i]).1) := fun i h => by
    rw [← Array.getElem?_toList, hr]
    show (L.map _)[i]? = _
    rw [List.getElem?_map, List.getElem?_eq_getElem h]
    rfl
  have main : ∀ l : List Nat, (∀ i ∈ l, i < L.length) → (l.filterMap fun i => es[i]?) = rws G (l.filterMap fun i => L[i]?) ∧ ((l.filterMap fun i => L[i]?).map fun q => G.hash q.2) = l.map fun i => (es.map (·.1)).getD i 0 := fun l => by
    induction l with
    | nil => exact fun _ => ⟨rfl, rfl⟩
    | cons i l ih =>
      intro hl
      have hi := hl i List.mem_cons_self
      obtain ⟨e1, e2⟩ := ih fun j hj => hl j (List.mem_cons_of_mem _ hj)
      rw [List.filterMap_cons_some (ent i hi), List.filterMap_cons_some (List.getElem?_eq_getElem hi), e1]
      refine ⟨rfl, ?_⟩
      rw [List.map_cons, List.map_cons, e2]
      have : (es.map (·.1))[i]? = some (G.hash (L[i]).2) := by
        rw [Array.getElem?_map, ent i hi]
        rfl
      simp [Array.getD_eq_getD_getElem?, this]
  obtain ⟨e1, e2⟩ := main od.toList fun i hi => List.mem_range.mp (hp.mem_iff.mp hi)
  refine ⟨od.toList.filterMap fun i => L[i]?, by rw [Array.toList_filterMap]; exact e1, ?_, e2⟩
  have all : ∀ n, n ≤ L.length → ((List.range n).filterMap fun i => L[i]?) = L.take n := fun n => by
    induction n with
    | zero => exact fun _ => rfl
    | succ n ih =>
      intro hn
      rw [List.range_succ, List.filterMap_append, ih (by omega), List.take_add_one, List.getElem?_eq_getElem (show n < L.length by omega)]
      simp [List.getElem?_eq_getElem (show n < L.length by omega)]
  have := hp.filterMap fun i => L[i]?
  rwa [all _ (Nat.le_refl _), List.take_length] at this
/-- the table laid anew -/
theorem lay_anew (g : SK G) {o : Obj} (ho : s.heap.get? a = some o) (hex : o.ExactSet) (hd : o.data = .set es ep t) (row : es.toList = rws G L) (psz : t.place.size = es.size) (dm : t.dummies = #[]) (fl : es.size ≤ t.mask) (dif : (L.map (·.2)).Nodup)
    (key : ∀ q ∈ L, G.is s.heap q.2 q.1) (pl : t.plain = true) (ld : w.params.followText "set-order" = true ∨ t.led = true) (few : L.length < 64) {want M : Nat} (hw : SetTable.sizeAbove want - 1 = M) (hM : MaskOk M) (hw2 : SetTable.sizeAbove want ≤ 128) (hn : L.length * 5 < M * 3)
    {Q : Unit → Shared → Prop} (hQ : ∀ h' L' es' ep' t', Heap.SameBut a s.heap h' → SetG G h' a L' es' ep' t' → L'.Perm L → Q () { s with heap := h' }) : wpAny (model P w) A (setRelay a want) Q E s := by
  have el : es.size = L.length := by rw [← Array.length_toList, row, rws_len]
  have fit : t.fits es.size = true := by
    simp only [SetTable.fits, SetTable.fill, dm, Bool.and_eq_true, beq_iff_eq, decide_eq_true_eq]
    exact ⟨by omega, by show t.place.size + 0 ≤ t.mask; omega⟩
  obtain ⟨t', od, e, hp, T, em, eled, epl, _⟩ := relaid_ok t (hs := es.map (·.1)) (wanted := want) hw hM (by rw [Array.size_map, el]; omega)
  rw [Array.size_map, el] at hp
  obtain ⟨M', r1, r2, r3⟩ := rws_order L es od row hp
  rw [← r3] at T
  have es2 : (od.filterMap (es[·]?)).size = es.size := by rw [← Array.length_toList, r1, rws_len, r2.length_eq, el]
  rw [setRelay_eq]
  refine wpAny_bind (wpAny_setState_of ho hd fit ?_)
  dsimp only
  refine wp_if_neg (by rw [sizeLine_eq]; omega) ?_
  try refine wpAny_bind (wpAny_pure ?_)
  rw [e]
  dsimp only
  refine wpAny_bind (wp_if_neg (by rw [es2]; simp) ?_)
  try refine wpAny_bind (wpAny_pure ?_)
  refine wpAny_pure ?_
  dsimp only
  refine wpAny_storeSet_of ho hd ?_ (by rw [es2, el, sizeLine_eq]; omega)
  have sb : Heap.SameBut a s.heap (s.heap.update a (Obj.putSet (od.filterMap (es[·]?)) t')) := Heap.SameBut.update ..
  refine hQ _ M' _ (ep + 1) t' sb ⟨⟨_, store_at ho hd, ⟨hex.1, hex.2.1, hex.2.2⟩, rfl⟩, r1, T, (r2.map (·.2)).nodup_iff.mpr dif, fun q hq => g.stays (key q (r2.mem_iff.mp hq)) ho hd sb, by rw [epl]; exact pl, by rw [eled]; exact ld, ?_, by rw [r2.length_eq]; exact few⟩ r2
  rw [r2.length_eq, em]
  exact hn
/-- a key put in -/
theorem put_in (g : SK G) (R : SetG G s.heap a L es ep t) {x : Addr} {k : κ} (hx : G.is s.heap k x) (hu : G.room A) (hfew : L.length + 1 < 64) {Q : Bool → Shared → Prop}
    (hQ : ∀ b h' L' es' ep' t', Heap.SameBut a s.heap h' → SetG G h' a L' es' ep' t' → (k ∈ L.map (·.2) → L' = L) → (k ∉ L.map (·.2) → L'.Perm ((x, k) :: L)) → Q b { s with heap := h' }) : wpAny (model P w) A (setAddHashed a (.ref x) (G.hash k)) Q E s := by
  obtain ⟨o, ho, hex, hd⟩ := R.obj
  have el := R.size
  have rm := R.rm
  unfold setAddHashed
  refine wpAny_holding ?_
  rw [show (100000 : Nat) = 99999 + 1 from rfl, setAddHashedIn_succ]
  refine wpAny_bind (wpAny_setState_of ho hd R.fit ?_)
  dsimp only
  refine wp_if_neg (by simp [byScan, Value.scannable]) ?_
  try refine wpAny_bind (wpAny_pure ?_)
  refine wpAny_bind (seek_at g R hx hu (fun hm => ?_) fun K hm hK hb => ?_)
  · exact wpAny_pure (hQ false s.heap L es ep t (Heap.SameBut.refl a s.heap) R (fun _ => rfl) fun z => absurd hm z)
  dsimp only
  refine wpAny_bind (wpAny_setState_of ho hd R.fit ?_)
  dsimp only
  obtain ⟨q1, q2, q3, q4, q5, q6, -, -, q9⟩ := R.tb.put hK hb
  have pl1 : (t.put (way t.mask (G.hash k) K)).1.plain = true := by rw [q6]; exact R.pl
  have ld1 : w.params.followText "set-order" = true ∨ (t.put (way t.mask (G.hash k) K)).1.led = true := by rw [q5]; exact R.ld
  generalize t.put (way t.mask (G.hash k) K) = pt at q1 q3 q4 q9 pl1 ld1 ⊢
  obtain ⟨t1, n1⟩ := pt
  dsimp only at q1 q3 q4 q9 pl1 ld1 ⊢
  subst q1
  first
    | (refine wpAny_bind ?_; refine wp_if_pos pl1 ?_; refine g.byVal hx ?_)
    | refine wp_if_pos pl1 (wpAny_bind (g.byVal hx ?_))
  simp only [if_true]
  have row1 : (SetTable.insertAt es (SetTable.below t.place (way t.mask (G.hash k) K)) (G.hash k, Value.ref x)).toList = rws G (L.take (SetTable.below t.place (way t.mask (G.hash k) K)) ++ (x, k) :: L.drop (SetTable.below t.place (way t.mask (G.hash k) K))) := by
    rw [SetTable.toList_insertAt, rws_cut, R.row]
  generalize SetTable.below t.place (way t.mask (G.hash k) K) = n at q2 q3 row1 ⊢
  have pm := cut_perm L n (x, k)
  have hs1 : ((L.map fun q => G.hash q.2).take n ++ G.hash k :: (L.map fun q => G.hash q.2).drop n) = (L.take n ++ (x, k) :: L.drop n).map fun q => G.hash q.2 := by
    rw [List.map_append, List.map_cons, List.map_take, List.map_drop]
  rw [hs1] at q3
  generalize L.take n ++ (x, k) :: L.drop n = L1 at pm q3 row1
  have len1 : L1.length = L.length + 1 := pm.length_eq
  have dif1 : (L1.map (·.2)).Nodup := (pm.map (·.2)).nodup_iff.mpr (List.nodup_cons.mpr ⟨hm, R.dif⟩)
  have es1 : (SetTable.insertAt es n (G.hash k, Value.ref x)).size = L.length + 1 := by rw [← Array.length_toList, row1, rws_len, len1]
  generalize SetTable.insertAt es n (G.hash k, Value.ref x) = e1 at row1 es1 ⊢
  refine wpAny_bind (wpAny_storeSet_of ho hd ?_ (by rw [es1, sizeLine_eq]; omega))
  have sb : Heap.SameBut a s.heap (s.heap.update a (Obj.putSet e1 t1)) := Heap.SameBut.update ..
  have ho1 := store_at (es' := e1) (t' := t1) ho hd
  generalize s.heap.update a (Obj.putSet e1 t1) = h1 at sb ho1 ⊢
  have key1 : ∀ q ∈ L1, G.is h1 q.2 q.1 := fun q hq => by
    rcases List.mem_cons.mp (pm.mem_iff.mp hq) with rfl | hq
    · exact g.stays hx ho hd sb
    · exact g.stays (R.key q hq) ho hd sb
  by_cases full : t1.tooFull = true
  · first
      | (refine wpAny_bind ?_; refine wp_if_pos (by simp [full]) ?_)
      | (refine wp_if_pos (by simp [full]) ?_; refine wpAny_bind ?_)
    have hfull : (L.length + 1) * 5 ≥ t1.mask * 3 := by
      unfold SetTable.tooFull at full
      rw [decide_eq_true_eq, q9, List.length_map] at full
      exact full
    have two : (t.mask = 7 ∧ L.length = 4) ∨ (t.mask = 31 ∧ L.length = 18) := by
      rw [q4] at hfull
      rcases R.tb.mok with e | e | e <;> rw [e] at hfull rm
      · exact .inl ⟨e, by omega⟩
      · exact .inr ⟨e, by omega⟩
      · omega
    have psz1 : t1.place.size = e1.size := by
      have h := q3.sz
      rw [List.length_map, len1] at h
      rw [h, es1]
    rw [el]
    have go : ∀ M, SetTable.sizeAbove (SetTable.grown (L.length + 1)) - 1 = M → MaskOk M → SetTable.sizeAbove (SetTable.grown (L.length + 1)) ≤ 128 → (L.length + 1) * 5 < M * 3 →
        wpAny (model P w) A (setRelay a (SetTable.grown (L.length + 1))) (fun _ s' => wpAny (model P w) A (pure true) Q E s') E { s with heap := h1 } := fun M a1 a2 a3 a4 =>
      lay_anew (s := { s with heap := h1 }) g ho1 ⟨hex.1, hex.2.1, hex.2.2⟩ rfl row1 psz1 q3.dm (by rw [es1, q4]; rcases two with ⟨e, e2⟩ | ⟨e, e2⟩ <;> omega) dif1 key1 pl1 ld1 (by rw [len1]; exact hfew) a1 a2 a3 (by rw [len1]; exact a4)
        fun h2 L2 es2 ep2 t2 sb2 R2 pm2 => wpAny_pure (hQ true h2 L2 es2 ep2 t2 (sb.trans sb2) R2 (fun z => absurd z hm) fun _ => pm2.trans pm)
    rcases two with ⟨_, e2⟩ | ⟨_, e2⟩
    · exact go 31 (by rw [e2, size_20]) (.inr (.inl rfl)) (by rw [e2, size_20]; decide) (by omega)
    · exact go 127 (by rw [e2, size_76]) (.inr (.inr rfl)) (by rw [e2, size_76]; decide) (by omega)
  · first
      | refine wp_if_neg (by simp [full]) ?_
      | (refine wpAny_bind ?_; refine wp_if_neg (by simp [full]) ?_; refine wpAny_pure ?_)
    refine wpAny_pure (hQ true h1 L1 e1 (ep + 1) t1 sb ⟨⟨_, ho1, ⟨hex.1, hex.2.1, hex.2.2⟩, rfl⟩, row1, q3, dif1, key1, pl1, ld1, ?_, by rw [len1]; exact hfew⟩ (fun z => absurd z hm) fun _ => pm)
    unfold SetTable.tooFull at full
    rw [decide_eq_true_eq, q9, List.length_map] at full
    rw [len1]
    omega
/-- what the set has of the first i keys -/
structure Had (ks : List (Addr × κ)) (i : Nat) (L : List (Addr × κ)) : Prop where
  sub : ∀ q ∈ L, q ∈ ks
  all : ∀ (j : Nat) q, j < i → ks[j]? = some q → q.2 ∈ L.map (·.2)
  len : L.length ≤ i
theorem Had.next {ks L L' : List (Addr × κ)} {i : Nat} {x : Addr × κ} (m : Had ks i L) (hx : ks[i]? = some x) (c1 : x.2 ∈ L.map (·.2) → L' = L) (c2 : x.2 ∉ L.map (·.2) → L'.Perm (x :: L)) : Had ks (i + 1) L' := by
  by_cases c : x.2 ∈ L.map (·.2)
  · rw [c1 c]
    refine ⟨m.sub, fun j q hj hq => ?_, Nat.le_succ_of_le m.len⟩
    by_cases e : j = i
    · subst e
      rw [hx] at hq
      cases hq
      exact c
    · exact m.all j q (by omega) hq
  · have p := c2 c
    refine ⟨fun q hq => ?_, fun j q hj hq => ?_, by rw [p.length_eq, List.length_cons]; exact Nat.succ_le_succ m.len⟩
    · rcases List.mem_cons.mp (p.mem_iff.mp hq) with rfl | h
      · exact List.mem_of_getElem? hx
      · exact m.sub q h
    · refine (p.map (·.2)).mem_iff.mpr ?_
      rw [List.map_cons]
      by_cases e : j = i
      · subst e
        rw [hx] at hq
        cases hq
        exact List.mem_cons_self
      · exact List.mem_cons_of_mem _ (m.all j q (by omega) hq)
theorem SetG.over (g : SK G) {h h' : Heap} (R : SetG G h a L es ep t) (ho : ∀ o, h.get? a = some o → h'.get? a = some o) (hk : ∀ q ∈ L, G.is h' q.2 q.1) : SetG G h' a L es ep t :=
  ⟨let ⟨o, h1, h2⟩ := R.obj; ⟨o, ho o h1, h2⟩, R.row, R.tb, R.dif, hk, R.pl, R.ld, R.rm, R.few⟩
theorem setG_new {h : Heap} (ho : h.get? a = some { cls := .type "set", dict := none, data := .set #[] 0 (.fresh 0 0 (!w.params.followText "set-order")) }) : SetG G h a [] #[] 0 (.fresh 0 0 (!w.params.followText "set-order")) := by
  refine ⟨⟨_, ho, ⟨rfl, rfl, rfl⟩, rfl⟩, rfl, ⟨List.Pairwise.nil, rfl, rfl, .inl rfl, fun x hx => (nomatch hx), fun i h j hi => by simp at hi⟩, List.nodup_nil, fun q hq => (nomatch hq), rfl, ?_, by show 0 * 5 < 7 * 3; decide, by show 0 < 64; decide⟩
  show _ ∨ (!w.params.followText "set-order") = true
  cases w.params.followText "set-order"
  · exact .inr rfl
  · exact .inl rfl
/-- the loop that puts the items in -/
theorem put_all (g : SK G) {I : Addr} {fp wr : List Addr} {Gn : Array GenState → Array GenState → Prop} {n : Nat} {Pv : Nat → Value → Prop} {St : Nat → Shared → Prop} {R : Result → Shared → Prop} (W : WalksS P w A.in1 I fp wr Gn n Pv St) (S : Addr) (hSf : S ∉ fp)
    (ks : List (Addr × κ)) (hn : n = ks.length) (few : ks.length < 64) (hval : ∀ i v, Pv i v → ∃ q, ks[i]? = some q ∧ v = .ref q.1) (h0 : Heap) (hk : ∀ q ∈ ks, G.is h0 q.2 q.1) (hw0 : ∀ b ∈ wr, h0.get? b = none) (hu : G.room A.in1) (hS0 : h0.get? S = none) :
    ∀ (m i : Nat) (s : Shared), n - i = m → i ≤ n → St i s → (∀ b o, h0.get? b = some o → s.heap.get? b = some o) → (∃ L es ep t, SetG G s.heap S L es ep t ∧ Had ks i L) →
      (∀ s' L es ep t, Moved (S :: wr) Gn s s' → SetG G s'.heap S L es ep t → Had ks n L → (∀ b o, h0.get? b = some o → s'.heap.get? b = some o) → R (.ok (.ret .none)) s') →
      codeAny (model P w) A (.builtin "set.update.loop" ⟨[.ref S, .ref I], []⟩) R s := by
  have hSw : S ∉ wr := fun h => hSf (W.sub _ h)
  have hsub : ∀ b ∈ wr, b ∈ S :: wr := fun b hb => List.mem_cons_of_mem _ hb
  have old : ∀ {s s' : Shared}, Moved wr Gn s s' → (∀ b o, h0.get? b = some o → s.heap.get? b = some o) → ∀ b o, h0.get? b = some o → s'.heap.get? b = some o := fun hm hkp b o e =>
    hm.heap b o (fun hb => by rw [hw0 b hb] at e; cases e) (hkp b o e)
  intro m
  induction m with
  | zero =>
    rintro i s hm hi hst hkp ⟨L, es, ep, t, hS, had⟩ hR
    obtain rfl : i = n := by omega
    refine codeAny_builtin F.entry_set_update_loop ?_
    rw [Around.under_plainId F.plain_set_update_loop _]
    show wpAny _ A.in1 (pyNext (.ref I) >>= _) _ _ s
    refine wpAny_bind (W.done s _ _ hst fun s' hmv => ?_)
    show wpAny _ A.in1 (ret Value.none) _ _ s'
    have hkp' := old hmv hkp
    exact wpAny_pure (hR s' L es ep t (hmv.mono hsub) (hS.over g (fun o e => hmv.heap S o hSw e) fun q hq => g.grows (hk q (had.sub q hq)) hkp') had hkp')
  | succ m ih =>
    rintro i s hm hi hst hkp ⟨L, es, ep, t, hS, had⟩ hR
    have hlt : i < n := by omega
    refine codeAny_builtin F.entry_set_update_loop ?_
    rw [Around.under_plainId F.plain_set_update_loop _]
    show wpAny _ A.in1 (pyNext (.ref I) >>= _) _ _ s
    refine wpAny_bind (W.item i s _ _ hlt hst fun v s' hP hst' hmv => ?_)
    obtain ⟨q, hq, rfl⟩ := hval i v hP
    have hkp' := old hmv hkp
    have hS' : SetG G s'.heap S L es ep t := hS.over g (fun o e => hmv.heap S o hSw e) fun q hq => g.grows (hk q (had.sub q hq)) hkp'
    have hx : G.is s'.heap q.2 q.1 := g.grows (hk q (List.mem_of_getElem? hq)) hkp'
    show wpAny _ A.in1 (holding [Value.ref q.1] (setAdd S (.ref q.1)) >>= _) _ _ s'
    refine wpAny_bind (wpAny_holding ?_)
    unfold setAdd
    refine wpAny_holding ?_
    refine wpAny_bind (G.pyHash hu hx ?_)
    refine put_in g (s := { s' with toks := s'.toks + G.draws q.2 }) hS' hx hu (by have := had.len; omega) fun b h' L' es' ep' t' hsb hS2 c1 c2 => ?_
    have hkp2 : ∀ b o, h0.get? b = some o → h'.get? b = some o := fun b o e => (hsb.2 b (fun z => by rw [z, hS0] at e; cases e)).trans (hkp' b o e)
    refine wpAny_pure ⟨plainId_quiet F.plain_set_update_loop _, ih (i + 1) _ (by omega) hlt (W.frame _ s' _ _ hst' (Nat.le_add_right _ _) fun b hb o e => ?_) hkp2 ⟨L', es', ep', t', hS2, had.next hq c1 c2⟩ fun s'' L2 es2 ep2 t2 hm2 hS3 had2 hkp3 => ?_⟩
    · rw [hsb.2 b (fun h : b = S => hSf (by rw [← h]; exact hb))]
      exact e
    · refine hR s'' L2 es2 ep2 t2 (Moved.trans W.gtrans ((hmv.mono hsub).then_heap (Nat.le_add_right _ _) fun b o hb e => ?_) hm2) hS3 had2 hkp3
      rw [hsb.2 b (fun h : b = S => hb (by rw [h]; exact List.mem_cons_self))]
      exact e
/-- a new set -/
abbrev nso (w : World) : Obj := { cls := .type "set", dict := none, data := .set #[] 0 (.fresh 0 0 (!w.params.followText "set-order")) }
set_option maxHeartbeats 6400000 in
/-- set(list) -/
theorem set_of (g : SK G) {l : Addr} {items : Array Value} (ks : List (Addr × κ)) {Q : Value → Shared → Prop} (hh : A.handled = none) (hl : s.heap.IsList l items) (hit : items.toList = ks.map fun q => Value.ref q.1) (hk : ∀ q ∈ ks, G.is s.heap q.2 q.1)
    (few : ks.length < 64) (hu : G.room A.in1.in1.in1)
    (h : ∀ (h' : Heap) (tk : Nat) L es ep t, SetG G h' s.heap.objs.size L es ep t → Had ks ks.length L → (∀ b o, s.heap.get? b = some o → h'.get? b = some o) → Q (.ref s.heap.objs.size) { s with heap := h', toks := tk }) :
    wpAny (model P w) A (call (.type "set") [.ref l]) Q E s := by
  have isz : items.size = ks.length := by rw [← Array.length_toList, hit, List.length_map]
  obtain ⟨c, tl, hmro⟩ := F.called_set.mro
  have hmade := F.called_set.made
  have hsub := F.called_set.sub
  refine wpAny_call (codeAny_of_tree ?_)
  show wpAny _ _ (callAny (.type "set") _) _ _ _
  refine wpAny_pure ⟨Code.quiet_builtin _ (by decide +kernel), codeAny_builtin F.entry_type_call ?_⟩
  rw [Around.under_plain (weight_type_call_type "set" [.ref l] []) rfl]
  have h1 := F.called_set.notType
  have h2 := F.called_set.canCreate
  have hct := F.typeCall_set_1 (.ref l)
  repeat (any_goals (first | assumption | wp_step))
  refine codeAny_mono (code_set_led1 (.ref l) (E := E) (Q₁ := fun obj s₁ => obj = .ref s.heap.objs.size ∧ s₁ = { s with heap := s.heap.push (nso w) }) ⟨rfl, rfl⟩) fun r s₁ hr => ?_
  match r, hr with
  | .error e, hr => exact hr
  | .ok .next, hr => exact hr.elim
  | .ok .brk, hr => exact hr.elim
  | .ok .cont, hr => exact hr.elim
  | .ok (.ret obj), hr =>
    obtain ⟨rfl, rfl⟩ := hr
    have hS : (s.heap.push (nso w)).get? s.heap.objs.size = some (nso w) := Heap.get?_push_size _ rfl
    have hT : Shared.TypeIs { s with heap := s.heap.push (nso w) } (.ref s.heap.objs.size) "set" := ⟨_, hS, rfl⟩
    have hli := F.called_set.init.lookup
    have hbi := F.called_set.init.bind (.ref s.heap.objs.size)
    repeat (any_goals (first | assumption | wp_step))
    refine codeAny_mono (codeAny_call_builtin (R := wants (fun r s₂ => r = .none ∧ ∃ h' tk L es ep t, s₂ = { s with heap := h', toks := tk } ∧ SetG G h' s.heap.objs.size L es ep t ∧ Had ks ks.length L ∧ (∀ b o, s.heap.get? b = some o → h'.get? b = some o)) E)
      F.called_set.init.plain F.entry_set_init (check_set_init_1 hT ?_)) fun r₂ s₂ hr₂ => ?_
    · obtain ⟨⟨ocls, odict, odata, oslots⟩, hol, hcl, nl, hdl⟩ := hl
      simp only at hcl hdl
      subst hcl hdl
      have hol' : (s.heap.push (nso w)).get? l = some { cls := .type "list", dict := odict, data := .seq items nl, slots := oslots } := Heap.get?_push_of_some _ hol
      have hsls := F.sub_list_set
      have hslf := F.sub_list_frozenset
      have hne : (Value.type "list" == Value.type "dict") = false := by decide
      have hl1 : (s.heap.push (nso w)).IsList l items := ⟨_, hol', rfl, nl, rfl⟩
      unfold Builtin.«set.__init__» noKeywords Builtin.Frozenset.updateFrom
      generalize hPI : pyIter = PI
      wp_walk
      subst hPI
      refine wpAny_pyIter_list hl1 ?_
      refine wpAny_bind (wpAny_runValue ?_)
      have hlS : l < s.heap.objs.size := Heap.lt_size hol
      have hh3 : A.in1.in1.in1.handled = none := by simp [hh]
      have sz1 : (s.heap.push (nso w)).objs.size = s.heap.objs.size + 1 := Heap.size_push ..
      have hneI : l ≠ (s.heap.push (nso w)).objs.size := by
        rw [Heap.size_push]
        exact Nat.ne_of_lt (Nat.lt_succ_of_lt hlS)
      have hSf : s.heap.objs.size ∉ [(s.heap.push (nso w)).objs.size, l] := by
        rw [Heap.size_push]
        simp only [List.mem_cons, List.not_mem_nil, or_false, not_or]
        exact ⟨Nat.ne_of_lt (Nat.lt_succ_self _), Nat.ne_of_gt hlS⟩
      have hval : ∀ (i : Nat) (v : Value), items[i]? = some v → ∃ q, ks[i]? = some q ∧ v = .ref q.1 := fun i v hv => by
        rw [← Array.getElem?_toList, hit, List.getElem?_map] at hv
        obtain ⟨q, hq, rfl⟩ := Option.map_eq_some_iff.mp hv
        exact ⟨q, hq, rfl⟩
      have none_of : ∀ b, s.heap.objs.size ≤ b → s.heap.get? b = none := fun b hb => by
        cases q : s.heap.get? b with
        | none => rfl
        | some o => exact absurd (Nat.lt_of_lt_of_le (Heap.lt_size q) hb) (Nat.lt_irrefl _)
      refine put_all g ((Walks.list hh3 _ l hneI items).toS) s.heap.objs.size hSf ks isz few hval s.heap hk (fun b hb => none_of b (by rw [List.mem_singleton.mp hb, Heap.size_push]; exact Nat.le_succ _)) hu (none_of _ (Nat.le_refl _)) (items.size - 0) 0 _ (by omega) (Nat.zero_le _)
        ⟨⟨_, Heap.get?_push_size _ rfl, rfl, rfl⟩, (hl1.push _)⟩ (fun b o e => Heap.get?_push_of_some _ (Heap.get?_push_of_some _ e)) ?hS0 ?hR
      case hS0 => exact ⟨[], #[], 0, _, setG_new (Heap.get?_push_of_some _ hS), fun q hq => (nomatch hq), fun j q hj => by omega, Nat.le_refl _⟩
      case hR =>
        intro s' L es ep t hm hS' had hkp
        obtain ⟨h', g2, d', tk', os'⟩ := s'
        have eg : g2 = s.gens := hm.gens
        have ed : d' = s.drawn := hm.drawn
        have eo : os' = s.os := hm.os
        subst eg ed eo
        show wpAny _ _ _ _ _ _
        refine wpAny_pure ?_
        show wpAny _ _ (ret Value.none) _ _ _
        rw [isz] at had
        exact wpAny_pure ⟨rfl, h', tk', L, es, ep, t, rfl, hS', had, hkp⟩
    · match r₂, hr₂ with
      | .error e, hr₂ => exact hr₂
      | .ok .next, hr₂ => exact hr₂.elim
      | .ok .brk, hr₂ => exact hr₂.elim
      | .ok .cont, hr₂ => exact hr₂.elim
      | .ok (.ret r), hr₂ =>
        obtain ⟨rfl, h', tk, L, es, ep, t, rfl, hS', had, hk'⟩ := hr₂
        repeat (any_goals (first | assumption | wp_step))
        exact h _ _ _ _ _ _ hS' had hk'
end
end PLN

end
section
set_option maxHeartbeats 4000000
/-! PO: sets of nested tuples of ints: the kind; values as keys; sorted(set(xs)). -/
namespace PLN
open PySem PySem.Spec L2
open PyProof.Rows hiding St
mutual
/-- no texts in it -/
def noTxt : NestedKey → Bool
  | .none => true
  | .num _ => true
  | .text _ => false
  | .tup ks => noTxts ks
def noTxts : List NestedKey → Bool
  | [] => true
  | k :: ks => noTxt k && noTxts ks
end
theorem noTxts_mem : ∀ {ks : List NestedKey}, noTxts ks = true → ∀ k ∈ ks, noTxt k = true
  | [], _, _, h => nomatch h
  | k :: ks, e, x, h => by
    simp only [noTxts, Bool.and_eq_true] at e
    rcases List.mem_cons.mp h with rfl | h
    · exact e.1
    · exact noTxts_mem e.2 x h
theorem depth_mem : ∀ {ks : List NestedKey} {k : NestedKey}, k ∈ ks → k.depth ≤ NestedKey.depthAll ks
  | x :: ks, k, h => by
    rw [NestedKey.depthAll]
    rcases List.mem_cons.mp h with rfl | h
    · omega
    · have := depth_mem h
      omega
theorem nall_mem {h : Heap} : ∀ {ks : List NestedKey} {vs : List Value}, NestedAll h ks vs → ∀ v ∈ vs, ∃ k ∈ ks, NestedIs h k v
  | _, _, .nil, v, m => nomatch m
  | _, _, .cons a b, v, m => by
    rcases List.mem_cons.mp m with rfl | m
    · exact ⟨_, List.mem_cons_self, a⟩
    · obtain ⟨k, h1, h2⟩ := nall_mem b v m
      exact ⟨k, List.mem_cons_of_mem _ h1, h2⟩
section
variable {P : Program} {w : World}
theorem cls_none : ∀ (n : Nat) (k : NestedKey) (v : Value) {A : Around} {E : Value → Shared → Prop} {s : Shared} {Q : Bool → Shared → Prop}, NestedIs s.heap k v → k.depth ≤ n → Q false s → wpAny (model P w) A (ofAClassStatement n v) Q E s := by
  intro n
  induction n with
  | zero =>
    intro k v A E s Q hk hd hq
    cases hk with
    | tup h1 h2 h3 h4 => simp [NestedKey.depth] at hd
    | _ => exact wpAny_pure hq
  | succ n ih =>
    intro k v A E s Q hk hd hq
    cases hk with
    | @tup a o vs m ks h1 h2 h3 h4 =>
      rw [NestedKey.depth] at hd
      have hT : s.TypeIs (.ref a) "tuple" := ⟨o, h1, h2⟩
      unfold ofAClassStatement
      refine wpAny_bind (wpAny_typeOf hT ?_)
      dsimp only
      simp only [show (("tuple" : String) == "tuple") = true by decide, if_true, Bool.not_true, Bool.false_eq_true, if_false]
      try refine wpAny_bind (wpAny_pure ?_)
      try simp only [Bool.not_true, Bool.false_eq_true, if_false]
      show wpAny _ _ (seqItems? (.ref a) >>= _) _ _ s
      refine wpAny_bind (wpAny_seqItems h1 h3 ?_)
      dsimp only
      refine wpAny_bind ?_
      show wpAny _ _ (forIn vs _ _) _ _ s
      rw [← Array.forIn_toList]
      refine wpAny_forIn_list _ (fun rest r s' => r.1 = none ∧ s' = s ∧ ∀ u ∈ rest, u ∈ vs.toList) _ ?_ ?_ _ _ ⟨rfl, rfl, fun _ h => h⟩
      · rintro u rest r s' ⟨_, rfl, hall⟩
        obtain ⟨k', m1, m2⟩ := nall_mem h4 u (hall u List.mem_cons_self)
        refine wpAny_bind (ih k' u m2 (by have := depth_mem m1; omega) ?_)
        simp only [Bool.false_eq_true, if_false]
        exact wpAny_pure ⟨rfl, rfl, fun x hx => hall x (List.mem_cons_of_mem _ hx)⟩
      · rintro ⟨r1, r2⟩ s' ⟨e, rfl, _⟩
        cases e
        exact wpAny_pure hq
    | _ => exact wpAny_pure hq
theorem by_value : ∀ (n : Nat) (k : NestedKey) (v : Value) {A : Around} {E : Value → Shared → Prop} {s : Shared} {Q : Bool → Shared → Prop}, NestedIs s.heap k v → k.depth ≤ n → noTxt k = true → Q true s → wpAny (model P w) A (hashByValue n v) Q E s := by
  intro n
  induction n with
  | zero =>
    intro k v A E s Q hk hd ht hq
    cases hk with
    | tup h1 h2 h3 h4 => simp [NestedKey.depth] at hd
    | text => simp [noTxt] at ht
    | _ => exact wpAny_pure hq
  | succ n ih =>
    intro k v A E s Q hk hd ht hq
    cases hk with
    | @tup a o vs m ks h1 h2 h3 h4 =>
      rw [NestedKey.depth] at hd
      rw [noTxt] at ht
      have hT : s.TypeIs (.ref a) "tuple" := ⟨o, h1, h2⟩
      unfold hashByValue
      refine wpAny_bind (wpAny_specialOf hT F.slot_tuple_hash.lookup ?_)
      show wpAny _ _ (seqItems? (.ref a) >>= _) _ _ s
      refine wpAny_bind (wpAny_seqItems h1 h3 ?_)
      refine wpAny_bind ?_
      show wpAny _ _ (forIn vs _ _) _ _ s
      rw [← Array.forIn_toList]
      refine wpAny_forIn_list _ (fun rest r s' => r.1 = none ∧ s' = s ∧ ∀ u ∈ rest, u ∈ vs.toList) _ ?_ ?_ _ _ ⟨rfl, rfl, fun _ h => h⟩
      · rintro u rest r s' ⟨_, rfl, hall⟩
        obtain ⟨k', m1, m2⟩ := nall_mem h4 u (hall u List.mem_cons_self)
        refine wpAny_bind (ih k' u m2 (by have := depth_mem m1; omega) (noTxts_mem ht k' m1) ?_)
        simp only [Bool.not_true, Bool.false_eq_true, if_false]
        exact wpAny_pure ⟨rfl, rfl, fun x hx => hall x (List.mem_cons_of_mem _ hx)⟩
      · rintro ⟨r1, r2⟩ s' ⟨e, rfl, _⟩
        cases e
        exact wpAny_pure hq
    | text => simp [noTxt] at ht
    | _ => exact wpAny_pure hq
/-- nested tuples without texts -/
def NK (P : Program) (w : World) : HeapKind P w NestedKey where
  is := fun h k a => (nestedKind P w).is h k a ∧ noTxt k = true
  hash := (nestedKind P w).hash
  draws := (nestedKind P w).draws
  room := (nestedKind P w).room
  inj := fun hx hy => (nestedKind P w).inj hx.1 hy.1
  keeps := fun x ho hd hs => ⟨(nestedKind P w).keeps x.1 ho hd hs, x.2⟩
  pyHash := fun hu hk h => (nestedKind P w).pyHash hu hk.1 h
  eqBool := fun hu hx hy h => (nestedKind P w).eqBool hu hx.1 hy.1 h
  quiet := fun hk h => (nestedKind P w).quiet hk.1 h
theorem sk_NK : SK (NK P w) where
  plainCls := fun hk hq => cls_none 8 _ _ hk.1.1 hk.1.2 hq
  byVal := fun hk hq => by_value 8 _ _ hk.1.1 hk.1.2 hk.2 hq
  stays := fun {h h' k b a o es ep t} x ho hd hs => ⟨⟨NestedIs.at (fun c ob vs n hb hc => by
    refine (hs.2 c fun e => ?_).trans hb
    subst e
    rw [ho] at hb
    cases hb
    rw [hd] at hc
    cases hc) k _ x.1.1, x.1.2⟩, x.2⟩
  grows := fun x hk => ⟨⟨NestedIs.at (fun c ob vs n hb _ => hk c ob hb) _ _ x.1.1, x.1.2⟩, x.2⟩
end
end PLN

end
section
set_option maxHeartbeats 4000000
/-! PP: sorted(set(xs)), xs a list of nested tuples of ints. -/
namespace PL
open PySem PySem.Spec L2
open PyProof.Rows hiding St
mutual
def nk : T → NestedKey
  | .non => .none
  | .int i => .num i
  | .tup xs => .tup (nks xs)
  | .bl _ => .none
  | .str _ => .none
  | .lst _ _ => .none
  | .dic _ _ _ => .none
  | .scr _ => .none
def nks : List T → List NestedKey
  | [] => []
  | x :: xs => nk x :: nks xs
end
mutual
theorem nk_inj : ∀ {a b : T}, nOk a = true → nOk b = true → nk a = nk b → a = b
  | .int i, b, _, hb, h => by
    cases b <;> simp only [nOk, Bool.false_eq_true] at hb <;> simp only [nk, NestedKey.num.injEq, reduceCtorEq] at h
    rw [h]
  | .tup xs, b, ha, hb, h => by
    cases b <;> simp only [nOk, Bool.false_eq_true] at hb <;> simp only [nk, NestedKey.tup.injEq, reduceCtorEq] at h
    rw [nks_inj (by simpa only [nOk] using ha) hb h]
  | .non, _, h, _, _ => by simp [nOk] at h
  | .bl _, _, h, _, _ => by simp [nOk] at h
  | .str _, _, h, _, _ => by simp [nOk] at h
  | .lst _ _, _, h, _, _ => by simp [nOk] at h
  | .dic _ _ _, _, h, _, _ => by simp [nOk] at h
  | .scr _, _, h, _, _ => by simp [nOk] at h
theorem nks_inj : ∀ {a b : List T}, nOks a = true → nOks b = true → nks a = nks b → a = b
  | [], [], _, _, _ => rfl
  | [], _ :: _, _, _, h => by simp [nks] at h
  | _ :: _, [], _, _, h => by simp [nks] at h
  | x :: xs, y :: ys, ha, hb, h => by
    simp only [nOks, Bool.and_eq_true] at ha hb
    simp only [nks, List.cons.injEq] at h
    rw [nk_inj ha.1 hb.1 h.1, nks_inj ha.2 hb.2 h.2]
end
mutual
theorem nk_txt : ∀ t : T, PLN.noTxt (nk t) = true
  | .int i => rfl
  | .tup xs => by rw [nk, PLN.noTxt]; exact nks_txt xs
  | .non => rfl
  | .bl _ => rfl
  | .str _ => rfl
  | .lst _ _ => rfl
  | .dic _ _ _ => rfl
  | .scr _ => rfl
theorem nks_txt : ∀ ts : List T, PLN.noTxts (nks ts) = true
  | [] => rfl
  | x :: xs => by rw [nks, PLN.noTxts, nk_txt x, nks_txt xs]; rfl
end
mutual
theorem nk_depth : ∀ t : T, (nk t).depth ≤ dep t
  | .int i => by simp [nk, NestedKey.depth]
  | .tup xs => by rw [nk, NestedKey.depth, dep]; have := nks_depth xs; omega
  | .non => by simp [nk, NestedKey.depth]
  | .bl _ => by simp [nk, NestedKey.depth]
  | .str _ => by simp [nk, NestedKey.depth]
  | .lst _ _ => by simp [nk, NestedKey.depth]
  | .dic _ _ _ => by simp [nk, NestedKey.depth]
  | .scr _ => by simp [nk, NestedKey.depth]
theorem nks_depth : ∀ ts : List T, NestedKey.depthAll (nks ts) ≤ deps ts
  | [] => by simp [nks, NestedKey.depthAll]
  | x :: xs => by rw [nks, NestedKey.depthAll, deps]; have := nk_depth x; have := nks_depth xs; omega
end
section
variable {X : Cx} {pins : List (Addr × Obj)} {σ : L2.St} {H : Hp} {s : Shared} {Z : Addr → Prop}
mutual
theorem nst_of (I : Inv X pins σ H s) : ∀ {t : T} {os : List Addr} {v : V} {u : Value}, Rep X.K H Z t os v → RelV v u → nOk t = true → NestedIs s.heap (nk t) u
  | .int i, _, _, _, r, q, _ => by
    cases r.int_inv
    obtain ⟨tk, rfl⟩ := q
    exact .int i tk
  | .tup xs, _, _, _, r, q, h => by
    obtain ⟨a, vs, rfl, fz, rs⟩ := r.tup_inv
    cases q
    obtain ⟨its, rv, ⟨o, ho, hc, n, hd⟩, _⟩ := I.tuple fz.sq
    rw [nk]
    exact .tup ho hc hd (by simpa using nsts_of I rs rv (by simpa only [nOk] using h))
  | .non, _, _, _, _, _, h => by simp [nOk] at h
  | .bl _, _, _, _, _, _, h => by simp [nOk] at h
  | .str _, _, _, _, _, _, h => by simp [nOk] at h
  | .lst _ _, _, _, _, _, _, h => by simp [nOk] at h
  | .dic _ _ _, _, _, _, _, _, h => by simp [nOk] at h
  | .scr _, _, _, _, _, _, h => by simp [nOk] at h
theorem nsts_of (I : Inv X pins σ H s) : ∀ {ts : List T} {os : List Addr} {vs : List V} {us : List Value}, Reps X.K H Z ts os vs → Vals vs us → nOks ts = true → NestedAll s.heap (nks ts) us
  | [], _, _, _, r, q, _ => by
    simp only [Reps] at r
    rw [r.2] at q
    cases q
    exact .nil
  | t :: ts, _, _, _, r, q, h => by
    simp only [Reps] at r
    simp only [nOks, Bool.and_eq_true] at h
    obtain ⟨o1, o2, v, vs', _, e, r1, r2⟩ := r
    rw [e] at q
    cases q with
    | cons q1 q2 => exact .cons (nst_of I r1 q1 h.1) (nsts_of I r2 q2 h.2)
end
end
/-- tuples of the heap with what they are -/
def RepL (K : PySem.W.Frag) (H : Hp) (Z : Addr → Prop) (L : List (Addr × T)) : Prop := ∀ q ∈ L, tOk q.2 = true ∧ Rep K H Z q.2 [] (.ref q.1)
theorem repl_of {K : PySem.W.Frag} {H : Hp} {Z : Addr → Prop} : ∀ {ts : List T} {vs : List V}, Reps K H Z ts [] vs → (∀ t ∈ ts, tOk t = true) → ∃ L : List (Addr × T), ts = L.map (·.2) ∧ vs = L.map (fun q => V.ref q.1) ∧ RepL K H Z L
  | [], vs, r, _ => by
    simp only [Reps] at r
    exact ⟨[], rfl, r.2, fun q h => nomatch h⟩
  | t :: ts, vs, r, h => by
    simp only [Reps] at r
    obtain ⟨o1, o2, v, vs', e1, e2, r1, r2⟩ := r
    obtain ⟨rfl, rfl⟩ := List.append_eq_nil_iff.mp e1.symm
    obtain ⟨L, rfl, rfl, hL⟩ := repl_of r2 fun x m => h x (List.mem_cons_of_mem _ m)
    have ht := h t List.mem_cons_self
    have : ∃ a, v = .ref a := by
      cases t <;> simp only [tOk, Bool.false_eq_true] at ht
      obtain ⟨a, _, e, _⟩ := r1.tup_inv
      exact ⟨a, e⟩
    obtain ⟨a, rfl⟩ := this
    refine ⟨(a, t) :: L, rfl, e2, fun q m => ?_⟩
    rcases List.mem_cons.mp m with rfl | m
    · exact ⟨ht, r1⟩
    · exact hL q m
theorem reps_of {K : PySem.W.Frag} {H : Hp} {Z : Addr → Prop} : ∀ {L : List (Addr × T)}, RepL K H Z L → Reps K H Z (L.map (·.2)) [] (L.map fun q => V.ref q.1)
  | [], _ => by simp [Reps]
  | q :: L, h => by
    simp only [List.map_cons, Reps]
    exact ⟨[], [], _, _, rfl, rfl, (h q List.mem_cons_self).2, reps_of fun x m => h x (List.mem_cons_of_mem _ m)⟩
/-- the set at a, without its keys -/
structure SetB (P : Program) (w : World) (h : Heap) (a : Addr) (L : List (Addr × NestedKey)) : Prop where
  ex : ∃ (es : Array (Int × Value)) (ep : Nat) (t : SetTable), (∃ o, h.get? a = some o ∧ o.ExactSet ∧ o.data = .set es ep t) ∧ es.toList = PLN.rws (PLN.NK P w) L ∧ TabOk t (L.map fun q => (PLN.NK P w).hash q.2) ∧ (L.map (·.2)).Nodup ∧ t.plain = true ∧
    (w.params.followText "set-order" = true ∨ t.led = true) ∧ L.length * 5 < t.mask * 3 ∧ L.length < 64
def SetBO (P : Program) (w : World) (a : Addr) (L : List (Addr × NestedKey)) : HO := .ext fun h => SetB P w h a L
theorem setBO_new {P : Program} {w : World} {H : Hp} {h : Heap} {a : Addr} {L : List (Addr × NestedKey)} (R : SetB P w h a L) : ObjOk P w H h a (SetBO P w a L) := by
  have ⟨es, ep, t, ⟨o, ho, r⟩, q⟩ := R.ex
  refine ⟨R, ⟨o, ho⟩, fun h1 h2 p k => ?_⟩
  have ⟨es', ep', t', ⟨o', ho', r'⟩, q'⟩ := SetB.ex p
  exact ⟨es', ep', t', ⟨o', k o' ho', r'⟩, q'⟩
def kL (L : List (Addr × T)) : List (Addr × NestedKey) := L.map fun q => (q.1, nk q.2)
theorem refs_vals : ∀ {L : List (Addr × T)} {us : List Value}, Vals (L.map fun q => V.ref q.1) us → us = L.map fun q => Value.ref q.1
  | [], _, .nil => rfl
  | q :: L, _, .cons r t => by
    cases r
    rw [refs_vals t]; rfl
theorem vals_refs : ∀ L : List (Addr × T), Vals (L.map fun q => V.ref q.1) (L.map fun q => Value.ref q.1)
  | [] => .nil
  | q :: L => .cons rfl (vals_refs L)
theorem tOk_n {t : T} (h : tOk t = true) : nOk t = true ∧ (nk t).depth ≤ 8 := by
  cases t <;> simp only [tOk, Bool.false_eq_true, Bool.and_eq_true, decide_eq_true_eq] at h
  exact ⟨by simpa only [nOk] using h.1, Nat.le_trans (nk_depth _) h.2⟩
section
variable {X : Cx}
/-- set(xs) -/
def rSet (K : PySem.W.Frag) (P : Program) (w : World) : List V → Hp → VK → Prop := fun xs H Q => ∃ (l : Addr) (L : List (Addr × T)) (Z : Addr → Prop), xs = [V.ref l] ∧ SqL K H l (L.map fun q => V.ref q.1) ∧ RepL K H Z L ∧ L.length < 64 ∧
  ∀ a L', H a = none → (∀ q ∈ L', q ∈ L) → (∀ q ∈ L, q.2 ∈ L'.map (·.2)) → (L'.map (·.2)).Nodup → Q (.ref a) (upd H a (SetBO P w a (kL L')))
theorem lift_L {L : List (Addr × T)} : ∀ {M : List (Addr × NestedKey)}, (∀ q ∈ M, q ∈ kL L) → ∃ L', M = kL L' ∧ ∀ q ∈ L', q ∈ L
  | [], _ => ⟨[], rfl, fun q h => nomatch h⟩
  | m :: M, h => by
    obtain ⟨L', rfl, h'⟩ := lift_L (L := L) (M := M) fun q m => h q (List.mem_cons_of_mem _ m)
    obtain ⟨q, hq, rfl⟩ := List.mem_map.mp (h m List.mem_cons_self)
    refine ⟨q :: L', rfl, fun x m => ?_⟩
    rcases List.mem_cons.mp m with rfl | m
    · exact hq
    · exact h' x m
theorem kL_snd (L : List (Addr × T)) : (kL L).map (·.2) = (L.map (·.2)).map nk := by unfold kL; rw [List.map_map, List.map_map]; rfl
theorem nodup_of_nk {l : List T} (h : (l.map nk).Nodup) : l.Nodup := (List.pairwise_map.mp h).imp fun ne e => ne (by rw [e])
theorem setT (hc : X.calm = true) (hu : X.A.units + 80 < cLine) : CallR X (.type "set") (rSet X.K X.prog X.w) := by
  intro pins s σ H xs us Q I r h
  obtain ⟨l, L, Z, rfl, hl, hL, hf, q⟩ := h
  rw [Vals.ref1 r]
  obtain ⟨its, rv, pl, hz⟩ := I.list hl
  have hn : H s.heap.objs.size = none := I.hok.fresh (Nat.le_refl _)
  have key : ∀ q ∈ kL L, (PLN.NK X.prog X.w).is s.heap q.2 q.1 := fun q m => by
    obtain ⟨p, hp, rfl⟩ := List.mem_map.mp m
    obtain ⟨h1, h2⟩ := hL p hp
    obtain ⟨h3, h4⟩ := tOk_n h1
    exact ⟨⟨nst_of I h2 rfl h3, h4⟩, nk_txt _⟩
  refine PLN.set_of PLN.sk_NK (kL L) (I.ok.hd hc) pl.isList (by
    have := refs_vals rv
    rw [List.toList_toArray, this]
    unfold kL
    rw [List.map_map]
    rfl) key (by unfold kL; rw [List.length_map]; exact hf) (by show X.A.units + 1 + 1 + 1 + 8 < cLine; omega) fun h' tk M es ep t R had k => ?_
  obtain ⟨L', rfl, hL'⟩ := lift_L had.sub
  refine ⟨.ref s.heap.objs.size, upd H s.heap.objs.size (SetBO X.prog X.w s.heap.objs.size (kL L')), I.laid (t' := tk) k (Nat.le_refl _) (setBO_new ⟨es, ep, t, R.obj, R.row, R.tb, R.dif, R.pl, R.ld, R.rm, R.few⟩), rfl, q _ L' hn hL' (fun p hp => ?_) ?_⟩
  · have m : (p.1, nk p.2) ∈ kL L := List.mem_map.mpr ⟨p, hp, rfl⟩
    obtain ⟨j, hj⟩ := List.getElem?_of_mem m
    have := had.all j _ (List.getElem?_eq_some_iff.mp hj).1 hj
    rw [kL_snd] at this
    obtain ⟨t', ht', e⟩ := List.mem_map.mp this
    obtain ⟨p', hp', rfl⟩ := List.mem_map.mp ht'
    rw [← nk_inj (tOk_n (hL p' (hL' p' hp')).1).1 (tOk_n (hL p hp).1).1 e]
    exact ht'
  · have := R.dif
    rw [kL_snd] at this
    exact nodup_of_nk this
end
end PL
namespace PySem.W
open PySem PySem.Calls PyProof.Rows
section
variable {prog : Program} {w : World} {A : Around} {E : Value → Shared → Prop} {s : Shared}
/-- sorted(v), v anything that can be collected, whatever is drawn on the way -/
theorem sorted_anyS {l : Addr} {Q : Value → Shared → Prop} {R : List Value → Shared → Prop} (hc : ∀ (Q' : List Value → Shared → Prop) (E' : Value → Shared → Prop), (∀ vs s1, R vs s1 → Q' vs s1) → wpAny (model prog w) A.in1 (collect (.ref l)) Q' E' s)
    (h : ∀ vs s1, R vs s1 → vs.length ≤ sizeLine ∧ ∃ κ, SortsAt prog w A.in1.in1 { s1 with heap := sortingHeap (s1.heap.push (seqObj "list" vs.toArray 0)) s1.heap.objs.size vs } κ vs ∧
      Q (.ref s1.heap.objs.size) { s1 with heap := sortedHeap (s1.heap.push (seqObj "list" vs.toArray 0)) s1.heap.objs.size vs (sortVals κ false vs vs).toArray }) : wpAny (model prog w) A (call (.builtin "sorted") [.ref l]) Q E s := by
  refine call_function_entry_kw kind_sorted plain_sorted entry_sorted (args_sorted1 _) ?_
  unfold Builtin.«sorted»
  refine wpAny_bind (m := checkCount "sorted" 1 1 _) (wpAny_pure ?_)
  refine wpAny_bind (hc _ _ fun vs s1 r => ?_)
  obtain ⟨hL, κ, S, hq⟩ := h vs s1 r
  refine wpAny_bind (wpAny_newList ?_ hL)
  have at_ : (s1.heap.push (seqObj "list" vs.toArray 0)).get? s1.heap.objs.size = some (seqObj "list" vs.toArray 0) := Heap.get?_push_size _ rfl
  show wpAny _ _ _ _ _ { s1 with heap := s1.heap.push (seqObj "list" vs.toArray 0) }
  refine wpAny_bind (wpAny_holding (wpAny_call_entry_kw slot_list_sort ⟨_, at_, rfl⟩ entry_list_sort ?body (args_list_sort _)))
  case body =>
    show wpAny (model prog w) A.in1.in1 (Builtin.«list.sort» ⟨[.ref s1.heap.objs.size], []⟩) _ _ _
    exact list_sort_vals (s := { s1 with heap := s1.heap.push (seqObj "list" vs.toArray 0) }) at_ S hL ⟨_, rfl, wpAny_pure ⟨_, rfl, hq⟩⟩
end
end PySem.W
namespace PL
open PySem PySem.Spec L2
open PyProof.Rows hiding St
theorem perm_map_inv {α β : Type} {f : α → β} {a b : List β} (h : a.Perm b) : ∀ {l : List α}, b = l.map f → ∃ l' : List α, l'.Perm l ∧ a = l'.map f := by
  induction h with
  | nil =>
    intro l e
    exact ⟨l, .refl _, e⟩
  | cons x h ih =>
    intro l e
    cases l with
    | nil => cases e
    | cons y l =>
      simp only [List.map_cons, List.cons.injEq] at e
      obtain ⟨l', p, e'⟩ := ih e.2
      exact ⟨y :: l', p.cons y, by rw [List.map_cons, ← e', e.1]⟩
  | swap x y r =>
    intro l e
    cases l with
    | nil => cases e
    | cons a l =>
      cases l with
      | nil => simp at e
      | cons b l =>
        simp only [List.map_cons, List.cons.injEq] at e
        exact ⟨b :: a :: l, .swap _ _ _, by simp [e.1, e.2.1, e.2.2]⟩
  | trans h1 h2 ih1 ih2 =>
    intro l e
    obtain ⟨l1, p1, e1⟩ := ih2 e
    obtain ⟨l2, p2, e2⟩ := ih1 e1
    exact ⟨l2, p2.trans p1, e2⟩
theorem sortable_sub {xs ys : List T} (h : sortable xs) (s : ∀ y ∈ ys, y ∈ xs) : sortable ys := by
  obtain ⟨h1, h2, h3⟩ := h
  have sd : ∀ d ∈ datas ys, d ∈ datas xs := fun d m => by
    rw [datas_map] at m ⊢
    obtain ⟨y, hy, rfl⟩ := List.mem_map.mp m
    exact List.mem_map.mpr ⟨y, s y hy, rfl⟩
  refine ⟨fun d hd d' hd' => h1 d (sd d hd) d' (sd d' hd'), ?_, fun y hy => h3 y (s y hy)⟩
  rcases h2 with h2 | h2
  · exact .inl fun d hd => h2 d (sd d hd)
  · exact .inr fun d hd => h2 d (sd d hd)
section
variable {X : Cx}
/-- what is collected is sorted: the values us stand for ts -/
theorem sorted_core (hu : X.A.units + 80 < cLine) {pins : List (Addr × Obj)} {σ : L2.St} {H : Hp} {s1 : Shared} {Z : Addr → Prop} {vs : List V} {us : List Value} {ts : List T} {Q : VK} (I : Inv X pins σ H s1) (zt : Zt H Z) (rv : Vals vs us) (hz : us.length ≤ sizeLine)
    (r : Reps X.K H Z ts [] vs) (hs : sortable ts) (q : ∀ v H' Z' os', Nw X.K H Z (.lst true (ts.mergeSort (PySem.W.dataLe false data))) v H' Z' os' → Q v H') :
    ∃ κ, PySem.W.SortsAt X.prog X.w X.A.in1.in1 { s1 with heap := PySem.W.sortingHeap (s1.heap.push (seqObj "list" us.toArray 0)) s1.heap.objs.size us } κ us ∧
      EP X pins σ Q (.ref s1.heap.objs.size) { s1 with heap := sortedHeap (s1.heap.push (seqObj "list" us.toArray 0)) s1.heap.objs.size us (PySem.W.sortVals κ false us us).toArray } := by
  obtain ⟨hal, hk, hsh⟩ := hs
  rw [datas_map] at hal hk
  have hnew : (s1.heap.push (seqObj "list" us.toArray 0)).get? s1.heap.objs.size = some (seqObj "list" us.toArray 0) := Heap.get?_push_size _ rfl
  have old : ∀ b o, s1.heap.get? b = some o → (PySem.W.sortingHeap (s1.heap.push (seqObj "list" us.toArray 0)) s1.heap.objs.size us).get? b = some o := fun b o e =>
    PySem.W.sortingHeap_old (Nat.ne_of_lt (Heap.lt_size e)) (Heap.get?_push_of_some _ e)
  have I1 : Inv X pins σ H { s1 with heap := PySem.W.sortingHeap (s1.heap.push (seqObj "list" us.toArray 0)) s1.heap.objs.size us } := I.kept (t' := s1.toks) old
  obtain ⟨e1, e2⟩ := each_of I1 r rv hsh
  refine ⟨PySem.W.dataKind (PySem.W.sortingHeap (s1.heap.push (seqObj "list" us.toArray 0)) s1.heap.objs.size us) (ts.map data), ?_, ?_⟩
  · refine PySem.W.SortsAt.data (s := { s1 with heap := PySem.W.sortingHeap (s1.heap.push (seqObj "list" us.toArray 0)) s1.heap.objs.size us }) (PySem.W.each_map (R := fun u d => ∃ as, Reads (PySem.W.sortingHeap (s1.heap.push (seqObj "list" us.toArray 0)) s1.heap.objs.size us) u d as) data e2) hal hk fun d hd => ?_
    obtain ⟨t, ht, rfl⟩ := List.mem_map.mp hd
    have := SeqAt.depth_of_shaped (hsh t ht)
    show X.A.units + 1 + 1 + _ < _
    omega
  · have e3 := PySem.W.sortVals_data (h' := PySem.W.sortingHeap (s1.heap.push (seqObj "list" us.toArray 0)) s1.heap.objs.size us) (R := fun u t => ∃ v, RelV v u ∧ Rep X.K H Z t [] v) (enc := data) false e1 e2 hal
    obtain ⟨out, ro, rp⟩ := of_each e3
    obtain ⟨ep, hat⟩ := sortedHeap_at (out := (PySem.W.sortVals (PySem.W.dataKind (PySem.W.sortingHeap (s1.heap.push (seqObj "list" us.toArray 0)) s1.heap.objs.size us) (ts.map data)) false us us).toArray) hnew
    have lo : out.length ≤ sizeLine := by
      rw [← rp.length, List.length_mergeSort, r.length, rv.length]; exact hz
    refine ⟨.ref s1.heap.objs.size, upd H s1.heap.objs.size (.lst out), I.laid (t' := s1.toks) (fun b o e => ?_) (Nat.le_refl _) ⟨lo, _, ep, ro, hat⟩, rfl, q _ _ _ _ (.lst rp zt (I.hok.fresh (Nat.le_refl _)))⟩
    show (sortedHeap (s1.heap.push (seqObj "list" us.toArray 0)) s1.heap.objs.size us _).get? b = _
    rw [sortedHeap_old (Nat.ne_of_lt (Heap.lt_size e)) (by rw [Heap.size_push]; exact Nat.lt_succ_of_lt (Heap.lt_size e))]
    exact Heap.get?_push_of_some _ e
/-- sorted(set) -/
def rSortedB (K : PySem.W.Frag) (P : Program) (w : World) : List V → Hp → VK → Prop := fun xs H Q => ∃ (a : Addr) (L : List (Addr × T)) (Z : Addr → Prop), xs = [V.ref a] ∧ H a = some (SetBO P w a (kL L)) ∧ Zt H Z ∧ RepL K H Z L ∧ sortable (L.map (·.2)) ∧
  ∀ (ts : List T) v H' Z' os', ts.Perm (L.map (·.2)) → Nw K H Z (.lst true (ts.mergeSort (PySem.W.dataLe false data))) v H' Z' os' → Q v H'
theorem sortedB (hc : X.calm = true) (hu : X.A.units + 80 < cLine) : CallR X (.builtin "sorted") (rSortedB X.K X.prog X.w) := by
  intro pins s σ H xs us Q I r h
  obtain ⟨a, L, Z, rfl, ha, zt, hL, hs, q⟩ := h
  have R0 : SetB X.prog X.w s.heap a (kL L) := (I.hok a _ ha).1
  obtain ⟨es, ep, t, ⟨o, ho, hex, hd⟩, row, tb, dif, pl, ld, rm, few⟩ := R0.ex
  have R : PLN.SetG (PLN.NK X.prog X.w) s.heap a (kL L) es ep t := ⟨⟨o, ho, hex, hd⟩, row, tb, dif, fun q m => by
    obtain ⟨p, hp, rfl⟩ := List.mem_map.mp m
    obtain ⟨h1, h2⟩ := hL p hp
    obtain ⟨h3, h4⟩ := tOk_n h1
    exact ⟨⟨nst_of I h2 rfl h3, h4⟩, nk_txt _⟩, pl, ld, rm, few⟩
  rw [Vals.ref1 r]
  have hsz := R.size
  have hll : (kL L).length = L.length := by unfold kL; rw [List.length_map]
  have hval : es.toList.map (·.2) = L.map fun q => Value.ref q.1 := by
    rw [row]
    unfold PLN.rws kL
    rw [List.map_map, List.map_map]
    rfl
  refine PySem.W.sorted_anyS (R := fun out s' => (∀ b o, s.heap.get? b = some o → s'.heap.get? b = some o) ∧ s'.gens = s.gens ∧ s'.os = s.os ∧ out.Perm (L.map fun q => Value.ref q.1))
    (fun Q' E' k => collect_set (A := X.A.in1) (I.ok.hd hc) ⟨o, ho, hex.1, hd⟩ R.fit (by unfold scanBound; omega) tb.ris ld fun s' out k1 _ g1 o1 pm => k out s' ⟨k1, g1, o1, by rw [← hval]; exact pm⟩) fun out s1 ⟨k1, g1, o1, pm⟩ => ?_
  obtain ⟨L', pL, rfl⟩ := perm_map_inv pm rfl
  have I1 : Inv X pins σ H s1 := I.call' (ch := []) o1 (Un.kept k1) (I.hok.kept k1) (by rw [g1]; exact I.bare) fun _ z => nomatch z
  have hL' : RepL X.K H Z L' := fun q m => hL q (pL.mem_iff.mp m)
  have hlen : (L'.map fun q => Value.ref q.1).length ≤ sizeLine := by rw [List.length_map, pL.length_eq, sizeLine_eq]; omega
  exact ⟨hlen, sorted_core hu I1 zt (vals_refs L') hlen (reps_of hL') (sortable_sub hs fun y m => by
    obtain ⟨p, hp, rfl⟩ := List.mem_map.mp m
    exact List.mem_map.mpr ⟨p, pL.mem_iff.mp hp, rfl⟩) fun v H' Z' os' n => q _ v H' Z' os' (pL.map (·.2)) n⟩
end
end PL

end
section
set_option maxHeartbeats 4000000
/-! PQm: min, max of two values that may be ordered; of a list of ints. -/
namespace PySem
open PySem.W
section
variable {prog : Program} {w : World} {A : Around} {E : Value → Shared → Prop} {s : Shared}
/-- min(a, b), the two compared where H stands -/
theorem call_min_twoH {a b : Value} {Q : Value → Shared → Prop}
    (h : wpAny (model prog w) A.in1 (pyIter (.ref s.heap.objs.size)) (fun it s₂ => ∃ I fp wr G n P St H bt, it = .ref I ∧ WalksS prog w A.in1 I fp wr G n P St ∧ St 0 s₂ ∧ (∀ b ∈ fp, b < s₂.heap.objs.size) ∧ 0 < n ∧
      (∀ b o, H.get? b = some o → b ∉ wr) ∧ (∀ b o, H.get? b = some o → s₂.heap.get? b = some o) ∧ CmpIn prog w A.in1 .Lt H P bt ∧ ∀ v s', P (argBest bt (n - 1)) v → Moved wr G s₂ s' → Q v s') E
      { s with heap := s.heap.push { cls := .type "tuple", data := .seq #[a, b] } }) :
    wpAny (model prog w) A (call (.builtin "min") [a, b]) Q E s := by
  have hname : (toString "min" ++ toString ".loop" : String) = "min.loop" := by decide
  refine call_function_tree F.kind_min F.plain_min F.entry_min (F.args_min2 _ _) ?_
  show wpAny _ A.in1 (Builtin.Builtins.bindParams "min" ["key", "default"] 0 ⟨[], []⟩ >>= _) _ _ s
  refine wpAny_bind (wpAny_of_eq (show Builtin.Builtins.bindParams "min" ["key", "default"] 0 ⟨[], []⟩ = pure [none, none] from rfl) ?_)
  show wpAny _ A.in1 (newTuple [a, b] >>= _) _ _ s
  refine wpAny_bind (wpAny_newObj_type ?_)
  refine wpAny_bind (wpAny_mono h (fun it s₂ h₂ => ?_) fun _ _ e => e)
  obtain ⟨I, fp, wr, G, n, P, St, H, bt, rfl, W, hst, hfp, hn, hw, hkeep, hcmp, hQ⟩ := h₂
  refine wpAny_bind (wpAny_newObj_type ?_)
  have hSf : s₂.heap.objs.size ∉ fp := fun hm => Nat.lt_irrefl _ (hfp _ hm)
  rw [hname]
  refine wpAny_pure ⟨plainId_quiet F.plain_min_loop _, codeAny_min_loop_firstH W H hw bt hcmp s₂.heap.objs.size hSf (fresh_in hkeep) _ hn (fun b o e => Heap.get?_push_of_some _ (hkeep b o e)) (W.frame 0 s₂ _ s₂.toks hst (Nat.le_refl _) fun b _ o e => Heap.get?_push_of_some _ e) (Heap.get?_push_size _ rfl) fun v s' hP hm => ?_⟩
  exact hQ v s' hP (Moved.drop_new (tk := s₂.toks) hm (Nat.le_refl _))
theorem call_max_twoH {a b : Value} {Q : Value → Shared → Prop}
    (h : wpAny (model prog w) A.in1 (pyIter (.ref s.heap.objs.size)) (fun it s₂ => ∃ I fp wr G n P St H bt, it = .ref I ∧ WalksS prog w A.in1 I fp wr G n P St ∧ St 0 s₂ ∧ (∀ b ∈ fp, b < s₂.heap.objs.size) ∧ 0 < n ∧
      (∀ b o, H.get? b = some o → b ∉ wr) ∧ (∀ b o, H.get? b = some o → s₂.heap.get? b = some o) ∧ CmpIn prog w A.in1 .Gt H P bt ∧ ∀ v s', P (argBest bt (n - 1)) v → Moved wr G s₂ s' → Q v s') E
      { s with heap := s.heap.push { cls := .type "tuple", data := .seq #[a, b] } }) :
    wpAny (model prog w) A (call (.builtin "max") [a, b]) Q E s := by
  have hname : (toString "max" ++ toString ".loop" : String) = "max.loop" := by decide
  refine call_function_tree F.kind_max F.plain_max F.entry_max (F.args_max2 _ _) ?_
  show wpAny _ A.in1 (Builtin.Builtins.bindParams "max" ["key", "default"] 0 ⟨[], []⟩ >>= _) _ _ s
  refine wpAny_bind (wpAny_of_eq (show Builtin.Builtins.bindParams "max" ["key", "default"] 0 ⟨[], []⟩ = pure [none, none] from rfl) ?_)
  show wpAny _ A.in1 (newTuple [a, b] >>= _) _ _ s
  refine wpAny_bind (wpAny_newObj_type ?_)
  refine wpAny_bind (wpAny_mono h (fun it s₂ h₂ => ?_) fun _ _ e => e)
  obtain ⟨I, fp, wr, G, n, P, St, H, bt, rfl, W, hst, hfp, hn, hw, hkeep, hcmp, hQ⟩ := h₂
  refine wpAny_bind (wpAny_newObj_type ?_)
  have hSf : s₂.heap.objs.size ∉ fp := fun hm => Nat.lt_irrefl _ (hfp _ hm)
  rw [hname]
  refine wpAny_pure ⟨plainId_quiet F.plain_max_loop _, codeAny_max_loop_firstH W H hw bt hcmp s₂.heap.objs.size hSf (fresh_in hkeep) _ hn (fun b o e => Heap.get?_push_of_some _ (hkeep b o e)) (W.frame 0 s₂ _ s₂.toks hst (Nat.le_refl _) fun b _ o e => Heap.get?_push_of_some _ e) (Heap.get?_push_size _ rfl) fun v s' hP hm => ?_⟩
  exact hQ v s' hP (Moved.drop_new (tk := s₂.toks) hm (Nat.le_refl _))
theorem two_at {a b v : Value} {c : Bool} (h : (#[a, b] : Array Value)[(if c = true then 1 else 0 : Nat)]? = some v) : v = if c = true then b else a := by
  cases c with
  | true => simpa using h.symm
  | false => simpa using h.symm
theorem two_data {op : CmpOp} {f : PyData → PyData → Bool} {a b : Value} {da db : PyData} {as bs : List Addr} {s : Shared}
    (rule : ∀ (s' : Shared) (Q : Value → Shared → Prop) (E : Value → Shared → Prop) v u dv du as bs, Reads s'.heap v dv as → Reads s'.heap u du bs → alike dv du = true → dv ≠ .none → A.units + min dv.depth du.depth < cLine → Q (.bool (f dv du)) s' → wpAny (model prog w) A (richCompare op v u) Q E s')
    (ra : Reads s.heap a da as) (rb : Reads s.heap b db bs) (hal : AlikeAll [da, db]) (hu : A.units + max da.depth db.depth < cLine) :
    CmpIn prog w A op s.heap (fun i v => (#[a, b] : Array Value)[i]? = some v) (fun i j => f ([da, db].getD i .none) ([da, db].getD j .none)) := by
  intro i j vi vj s' Q E hk hi hj hq
  have at_ : ∀ i v, (#[a, b] : Array Value)[i]? = some v → ∃ cs, Reads s.heap v ([da, db].getD i .none) cs ∧ [da, db].getD i .none ∈ [da, db] ∧ ([da, db].getD i .none).depth ≤ max da.depth db.depth := fun i v e => by
    match i, e with
    | 0, e => cases e; exact ⟨_, ra, by simp, Nat.le_max_left _ _⟩
    | 1, e => cases e; exact ⟨_, rb, by simp, Nat.le_max_right _ _⟩
    | n + 2, e => simp at e
  obtain ⟨_, r1, m1, d1⟩ := at_ i vi hi
  obtain ⟨_, r2, m2, d2⟩ := at_ j vj hj
  refine rule s' Q E vi vj _ _ _ _ (reads_keeps hk r1) (reads_keeps hk r2) (hal.1 _ m1 _ m2) (hal.2 _ m1) ?_ hq
  have := Nat.min_le_left ([da, db].getD i .none).depth ([da, db].getD j .none).depth
  omega
theorem min_two_data {a b : Value} {da db : PyData} {as bs : List Addr} {Q : Value → Shared → Prop} (hh : A.handled = none) (ra : Reads s.heap a da as) (rb : Reads s.heap b db bs) (hal : AlikeAll [da, db]) (hu : A.units + 1 + max da.depth db.depth < cLine)
    (h : ∀ h' tk, (∀ b o, s.heap.get? b = some o → h'.get? b = some o) → Q (if dataLt db da = true then b else a) { s with heap := h', toks := tk }) :
    wpAny (model prog w) A (call (.builtin "min") [a, b]) Q E s := by
  have kp : ∀ c o, s.heap.get? c = some o → (s.heap.push { cls := .type "tuple", data := .seq #[a, b] }).get? c = some o := fun c o e => Heap.get?_push_of_some _ e
  have hT : (s.heap.push { cls := .type "tuple", data := .seq #[a, b] }).IsTuple s.heap.objs.size #[a, b] := ⟨_, Heap.get?_push_size _ rfl, rfl, 0, rfl⟩
  refine call_min_twoH (iter_tupleW (A := A.in1) (s := { s with heap := s.heap.push { cls := .type "tuple", data := .seq #[a, b] } }) hh hT fun s₂ e W st hfp hw hk => ?_)
  refine ⟨_, _, _, _, _, _, _, _, _, rfl, W, st, hfp, Nat.zero_lt_two, hw, hk, two_data (A := A.in1) (s := { s with heap := s.heap.push { cls := .type "tuple", data := .seq #[a, b] } }) (fun s' Q E v u dv du as bs r1 r2 al nn hu q => rcLt_alike dv du A.in1 s' v u as bs r1 r2 al nn hu prog w E Q q) (reads_keeps kp ra) (reads_keeps kp rb) hal hu, fun v s' hP m => ?_⟩
  obtain ⟨h', tk, rfl, hk'⟩ := moved_old e rfl m
  have e2 := two_at (c := dataLt db da) hP
  rw [e2]
  exact h h' tk fun c o e => hk' c o (kp c o e)
theorem max_two_data {a b : Value} {da db : PyData} {as bs : List Addr} {Q : Value → Shared → Prop} (hh : A.handled = none) (ra : Reads s.heap a da as) (rb : Reads s.heap b db bs) (hal : AlikeAll [da, db]) (hu : A.units + 1 + max da.depth db.depth < cLine)
    (h : ∀ h' tk, (∀ b o, s.heap.get? b = some o → h'.get? b = some o) → Q (if dataLt da db = true then b else a) { s with heap := h', toks := tk }) :
    wpAny (model prog w) A (call (.builtin "max") [a, b]) Q E s := by
  have kp : ∀ c o, s.heap.get? c = some o → (s.heap.push { cls := .type "tuple", data := .seq #[a, b] }).get? c = some o := fun c o e => Heap.get?_push_of_some _ e
  have hT : (s.heap.push { cls := .type "tuple", data := .seq #[a, b] }).IsTuple s.heap.objs.size #[a, b] := ⟨_, Heap.get?_push_size _ rfl, rfl, 0, rfl⟩
  refine call_max_twoH (iter_tupleW (A := A.in1) (s := { s with heap := s.heap.push { cls := .type "tuple", data := .seq #[a, b] } }) hh hT fun s₂ e W st hfp hw hk => ?_)
  refine ⟨_, _, _, _, _, _, _, _, _, rfl, W, st, hfp, Nat.zero_lt_two, hw, hk, two_data (f := fun x y => dataLt y x) (A := A.in1) (s := { s with heap := s.heap.push { cls := .type "tuple", data := .seq #[a, b] } }) (fun s' Q E v u dv du as bs r1 r2 al nn hu q => rcGt_alike dv du A.in1 s' v u as bs r1 r2 al nn hu prog w E Q q) (reads_keeps kp ra) (reads_keeps kp rb) hal hu, fun v s' hP m => ?_⟩
  obtain ⟨h', tk, rfl, hk'⟩ := moved_old e rfl m
  have e2 := two_at (c := dataLt da db) hP
  rw [e2]
  exact h h' tk fun c o e => hk' c o (kp c o e)
end
end PySem
namespace PL
open PySem PySem.Spec L2
open PyProof.Rows hiding St
section
variable {X : Cx}
def rMm (K : PySem.W.Frag) (mx : Bool) : List V → Hp → VK → Prop := fun vs H Q => ∃ x y a b Z, vs = [x, y] ∧ Zt H Z ∧ Rep K H Z a [] x ∧ Rep K H Z b [] y ∧ ordable a b = true ∧ selfA a = true ∧ selfA b = true ∧ ∀ v, Nw K H Z (mmD mx a b) v H Z [] → Q v H
theorem alike_two {a b : T} (h : ordable a b = true) (sa : selfA a = true) (sb : selfA b = true) : PySem.W.AlikeAll [data a, data b] := by
  obtain ⟨s1, s2, al, nn⟩ := ord_inv h
  have al' : PySem.W.alike (data b) (data a) = true := by rw [PySem.W.alike_comm]; exact al
  refine ⟨fun x hx y hy => ?_, fun x hx => ?_⟩
  · simp only [List.mem_cons, List.not_mem_nil, or_false] at hx hy
    rcases hx with rfl | rfl <;> rcases hy with rfl | rfl <;> assumption
  · simp only [List.mem_cons, List.not_mem_nil, or_false] at hx
    rcases hx with rfl | rfl
    · exact nn
    · intro e
      rw [e] at al
      cases q : data a <;> rw [q] at al nn <;> simp [PySem.W.alike] at al nn
theorem mmDT (hc : X.calm = true) (hu : X.A.units + 80 < cLine) (mx : Bool) : CallR X (.builtin (if mx then "max" else "min")) (rMm X.K mx) := by
  intro pins s σ H vs us Q I r h
  obtain ⟨x, y, a, b, Z, rfl, zt, ra, rb, ho, sa, sb, q⟩ := h
  obtain ⟨u, w', rfl, r1, r2⟩ := vals2 r
  obtain ⟨s1, s2, al, nn⟩ := ord_inv ho
  obtain ⟨as, d1⟩ := Dp.reads I _ x u (dp_shp ra s1) r1
  obtain ⟨bs, d2⟩ := Dp.reads I _ y w' (dp_shp rb s2) r2
  have dd : X.A.units + 1 + max (data a).depth (data b).depth < cLine := by
    have := SeqAt.depth_of_shaped s1
    have := SeqAt.depth_of_shaped s2
    omega
  have fin : ∀ (c : Bool) (h' : Heap) (tk : Nat), c = (if mx = true then ltT a b else ltT b a) → (∀ b o, s.heap.get? b = some o → h'.get? b = some o) → EP X pins σ Q (if c = true then w' else u) { s with heap := h', toks := tk } := fun c h' tk ec k => by
    refine ⟨if c = true then y else x, H, I.kept k, ?_, q _ (.scalar ?_ zt)⟩
    · cases c with
      | true => exact r2
      | false => exact r1
    · unfold mmD
      rw [← ec]
      cases c with
      | true => exact rb
      | false => exact ra
  cases mx with
  | true => exact max_two_data (I.ok.hd hc) d1 d2 (alike_two ho sa sb) dd fun h' tk k => fin _ h' tk rfl k
  | false => exact min_two_data (I.ok.hd hc) d1 d2 (alike_two ho sa sb) dd fun h' tk k => fin _ h' tk rfl k
def rMmL (mx : Bool) : List V → Hp → VK → Prop := fun vs H Q => ∃ a n ns, vs = [V.ref a] ∧ Rd H a (.lst ((n :: ns).map V.int)) ∧ Q (.int (mmI mx n ns)) H
theorem ints_reads {h : Heap} : ∀ {ns : List Int} {us : List Value}, Vals (ns.map V.int) us → ReadsAll h us (ns.map PyData.int) []
  | [], _, .nil => .nil
  | n :: ns, _, .cons r t => by
    obtain ⟨tk, rfl⟩ := r
    exact .cons (as := []) (bs := []) (.int n tk) (ints_reads t)
theorem ints_alike (ns : List Int) : PySem.W.AlikeAll (ns.map PyData.int) := by
  refine ⟨fun x hx y hy => ?_, fun x hx => ?_⟩
  · obtain ⟨i, _, rfl⟩ := List.mem_map.mp hx
    obtain ⟨j, _, rfl⟩ := List.mem_map.mp hy
    rfl
  · obtain ⟨i, _, rfl⟩ := List.mem_map.mp hx
    simp
theorem ints_depth : ∀ ns : List Int, PyData.depthAll (ns.map PyData.int) = 0
  | [] => by simp [PyData.depthAll]
  | n :: ns => by simp [PyData.depthAll, PyData.depth, ints_depth ns]
theorem mmLT (hc : X.calm = true) (hu : X.A.units + 80 < cLine) (mx : Bool) : CallR X (.builtin (if mx then "max" else "min")) (rMmL mx) := by
  intro pins s σ H vs us Q I r h
  obtain ⟨a, n, ns, rfl, ha, q⟩ := h
  rw [Vals.ref1 r]
  obtain ⟨its, rv, pl, hz⟩ := I.list (.inl ha)
  have rd : ReadsAll s.heap its.toArray.toList ((PyData.int n) :: ns.map PyData.int) [] := by simpa using ints_reads rv
  have al : PySem.W.AlikeAll ((PyData.int n) :: ns.map PyData.int) := ints_alike (n :: ns)
  have dd : X.A.units + 1 + PyData.depthAll ((PyData.int n) :: ns.map PyData.int) < cLine := by
    have := ints_depth (n :: ns)
    simp only [List.map_cons] at this
    rw [this]
    omega
  cases mx with
  | true =>
    refine PySem.W.max_list_data (I.ok.hd hc) pl.isList rd al dd fun i v h' tk bs _ rv k => ?_
    rw [PySem.W.maxD_ints] at rv
    cases rv
    exact ⟨.int (mmI true n ns), H, I.kept k, ⟨_, rfl⟩, q⟩
  | false =>
    refine PySem.W.min_list_data (I.ok.hd hc) pl.isList rd al dd fun i v h' tk bs _ rv k => ?_
    rw [PySem.W.minD_ints] at rv
    cases rv
    exact ⟨.int (mmI false n ns), H, I.kept k, ⟨_, rfl⟩, q⟩
end
end PL

end
section
set_option maxHeartbeats 4000000
/-! PLg: subscripts, slices, built-ins, methods, calls of defs. -/
namespace PL
open PySem PySem.Spec L2
open PyProof.Rows hiding St

/-! ### arguments that aren't starred -/
def notStar : Expr → Bool
  | .Starred _ _ => false
  | _ => true
theorem star_cons {e : Expr} {es : List Expr} {env : PySem.Env} (h : notStar e = true) : starEach (e :: es) env = (false, eval e env) :: starEach es env := by
  cases e <;> first | rfl | cases h
theorem star_any {pos : Pos} : ∀ {es : List Expr} {env : PySem.Env}, es.all notStar = true → (backTo pos (starEach es env)).any (·.1) = false
  | [], _, _ => rfl
  | e :: es, env, h => by
    simp only [List.all_cons, Bool.and_eq_true] at h
    rw [star_cons h.1]
    show (false || (backTo pos (starEach es env)).any (·.1)) = false
    rw [star_any h.2]
    rfl
theorem star_one {e : Expr} {env : PySem.Env} (h : notStar e = true) : starEach [e] env = [(false, eval e env)] := by rw [star_cons h]; rfl
def plainSub : Expr → Bool
  | .Slice _ _ _ _ => false
  | _ => true
theorem plainIx {b : Expr} (h : plainSub b = true) : PlainIx b := fun o i => by
  cases b <;> first | rfl | cases h

section
variable {X : Cx} {Φ : Nat → Spec}
/-! ### subscripts, slices -/
theorem ve_idx (hu : X.A.units + 1 < cLine) {a b : Expr} {A : P} {B : E} {pos : Pos} (ha : PE X a (tP X.K A (wpP Φ A))) (hb : PE X b (tV X.K (wpE Φ B))) (hs : PlainIx b) :
    PE X (.Subscript a b pos) (tV X.K (wpE Φ (.idx A B))) := (pe_ix (ixP hu) ha (vp_tmp hb) hs).imp fun σ H Q ⟨Γ, Z, Os, Qt, ok, w, k⟩ => by
  simp only [wpE] at w
  refine twoP (p := fun x' y Γ2 => ∃ v, idxT x' y = some v ∧ isF v = true ∧ Qt v Γ2) ok (by simpa only [wpP] using w) fun x y Γ2 v u H2 Z2 Os2 o1 o2 q ok2 r1 r2 e => ?_
  obtain ⟨z, h1, h2, h3⟩ := q
  exact ⟨x, y, z, Z2, o1, o2, ok2.zt, r1, r2, h1, h2, fun w' rw' => k _ _ _ _ _ _ _ h3 ((Nw.scalar rw' ok2.zt).res ok2 e)⟩
/-- a slice's part -/
def tO (K : PySem.W.Frag) (w : Env → (Option Int → Env → Prop) → Prop) : TO := fun σ H Q => ∃ Γ Z Os Qt, Ok K H Z Γ Os σ ∧ w Γ Qt ∧
  ∀ o Γ' H' Z' Os', Qt o Γ' → Ok K H' Z' Γ' Os' σ → Ext Os.flatten H Z H' Z' Os'.flatten → Q o H'
theorem _root_.L2.PO.imp {X : Cx} {e : Option Expr} {t t' : TO} (h : PO X e t) (i : ∀ σ H Q, t' σ H Q → t σ H Q) : PO X e t' := ⟨fun pins s σ H Q I q => h.run pins s σ H Q I (i _ _ _ q)⟩
theorem vo_no : PO X none (tO X.K (wpOe Φ .no)) := po_none.imp fun σ H Q ⟨Γ, Z, Os, Qt, ok, w, k⟩ => by
  simp only [wpOe] at w
  exact k _ _ _ _ _ w ok Ext.refl
theorem vo_so {e : Expr} {E : E} (h : PE X e (tV X.K (wpE Φ E))) : PO X (some e) (tO X.K (wpOe Φ (.so E))) := (po_some h).imp fun σ H Q ⟨Γ, Z, Os, Qt, ok, w, k⟩ => by
  simp only [wpOe] at w
  refine ⟨Γ, Z, Os, _, ok, w, fun t Γ1 v H1 Z1 Os1 o1 q1 r1 => ?_⟩
  obtain ⟨i, rfl, q⟩ := q1
  exact ⟨i, r1.rep.int_inv, k _ _ _ _ _ q r1.ok r1.exto⟩
theorem ve_sl {a : Expr} {A : P} {lo hi : Option Expr} {L U : Oe} {pos p2 : Pos} (ha : PE X a (tP X.K A (wpP Φ A))) (hl : PO X lo (tO X.K (wpOe Φ L))) (hh : PO X hi (tO X.K (wpOe Φ U))) :
    PE X (.Subscript a (.Slice lo hi none p2) pos) (tV X.K (wpE Φ (.sl A L U))) := (pe_slice slPs ha hl hh).imp fun σ H Q ⟨Γ, Z, Os, Qt, ok, w, k⟩ => by
  simp only [wpE] at w
  refine ⟨Γ, Z, Os, _, ok, w, fun x Γ1 v H1 Z1 Os1 o1 q1 r1 => ⟨Γ1, Z1, Os1, _, r1.ok, q1, fun l Γ2 H2 Z2 Os2 q2 ok2 e2 => ⟨Γ2, Z2, Os2, _, ok2, q2, fun h Γ3 H3 Z3 Os3 q3 ok3 e3 => ?_⟩⟩⟩
  obtain ⟨x', lk, q⟩ := q3
  obtain ⟨o, rx⟩ := r1.later ok3 (e2.trans e3) lk
  exact ⟨x', Z3, o, _, ok3.zt, rx, q, fun z v' H' Z' os' qz n => k _ _ _ _ _ _ _ qz (n.res ok3 ((r1.ext.trans e2).trans e3))⟩
/-! ### built-ins -/
def biN : Bi → Str
  | .len => "len" | .list => "list" | .tuple => "tuple" | .int => "int" | .sorted => "sorted" | .abs => "abs" | .sum => "sum" | .all => "all" | .any => "any" | .str => "str"
theorem pe_callV {x : Str} {f : Value} {r : List V → Hp → VK → Prop} {p pos : Pos} {e : Expr} {es : List Expr} {t : TA} (hc : CallR X f r) (hg : Gl X x) (hm : X.mg x = none) (hv : bootBuiltins x = some f) (hf : (∃ id, f = .builtin id) ∨ ∃ T, f = .type T) (ha : PA X (e :: es) t)
    (hn : x ≠ "__name__") (hdb : (x == ("__debug__" : Str)) = false) (hst : (e :: es).all notStar = true) : PE X (.Call (.Name x p) (e :: es) [] pos) (tCB r t) := by
  simp only [List.all_cons, Bool.and_eq_true] at hst
  rcases hf with ⟨id, rfl⟩ | ⟨T, rfl⟩
  · exact pe_callB hc hg hm hv ha hn hdb (star_cons hst.1) (star_any hst.2)
  · exact pe_callTy hc hg hm hv ha hn hdb (star_cons hst.1) (star_any hst.2)
theorem bi_boot (b : Bi) : bootBuiltins (biN b) = some (biV b) := by cases b <;> rfl
theorem bi_kind (b : Bi) : (∃ id, biV b = .builtin id) ∨ ∃ T, biV b = .type T := by
  cases b <;> first | exact .inl ⟨_, rfl⟩ | exact .inr ⟨_, rfl⟩
theorem bi_name (b : Bi) : biN b ≠ "__name__" ∧ (biN b == ("__debug__" : Str)) = false := by cases b <;> exact ⟨by decide, by decide⟩
theorem ve_bi (hc : X.calm = true) (hu : X.A.units + 80 < cLine) {b : Bi} {e : Expr} {A : P} {p pos : Pos} (hg : Gl X (biN b)) (hm : X.mg (biN b) = none) (ha : PE X e (tP X.K A (wpP Φ A))) (hs : notStar e = true) :
    PE X (.Call (.Name (biN b) p) [e] [] pos) (tV X.K (wpE Φ (.bi b A))) :=
  (pe_callV (biT hc hu b) hg hm (bi_boot b) (bi_kind b) (pa_cons ha pa_nil (star_cons hs)) (bi_name b).1 (bi_name b).2 (by simp [hs])).imp fun σ H Q ⟨Γ, Z, Os, Qt, ok, w, k⟩ => by
    simp only [wpE] at w
    refine ⟨Γ, Z, Os, _, ok, w, fun x Γ1 v H1 Z1 Os1 o1 q1 r1 => ?_⟩
    obtain ⟨o, rx⟩ := r1.rep
    exact ⟨v, x, Z1, o, _, rfl, r1.ok.zt, rx, q1, fun z v' H' Z' os' qz n => k _ _ _ _ _ _ _ qz (n.res r1.ok r1.ext)⟩
theorem ve_isi {ty : Ty} {e : Expr} {A : P} {p p2 pos : Pos} (hg : Gl X "isinstance") (hm : X.mg "isinstance" = none) (hg2 : Gl X (Str.ofString (tyN ty))) (hm2 : X.mg (Str.ofString (tyN ty)) = none) (ha : PE X e (tP X.K A (wpP Φ A))) (hs : notStar e = true) :
    PE X (.Call (.Name "isinstance" p) [e, .Name (Str.ofString (tyN ty)) p2] [] pos) (tV X.K (wpE Φ (.isi A ty))) := by
  have hc : CallR X (.builtin "isinstance") (fun vs H Q => ∃ x t Z o, vs = [x, .ty (tyN ty)] ∧ Rep X.K H Z t o x ∧ Q (.bl (isTy ty t)) H) := fun pins s σ H xs us Q I rv h => by
    obtain ⟨x, t, Z, o, rfl, r, q⟩ := h
    exact isiP ty I rv r q
  have hn : PE X (.Name (Str.ofString (tyN ty)) p2) (tC (.ty (tyN ty))) := pe_bltn hg2 hm2 (u := .type (tyN ty)) (by cases ty <;> rfl) rfl (by cases ty <;> decide) (by cases ty <;> decide)
  refine (pe_callV hc hg hm rfl (.inl ⟨_, rfl⟩) (pa_cons ha (pa_cons hn pa_nil rfl) (star_cons hs)) (by decide) (by decide) (by show (notStar e && true) = true; rw [hs]; rfl)).imp fun σ H Q ⟨Γ, Z, Os, Qt, ok, w, k⟩ => ?_
  simp only [wpE] at w
  refine ⟨Γ, Z, Os, _, ok, w, fun x Γ1 v H1 Z1 Os1 o1 q1 r1 => ?_⟩
  obtain ⟨o, rx⟩ := r1.rep
  exact ⟨v, x, Z1, o, rfl, rx, k _ _ _ _ _ _ _ q1 ((Nw.scalar rep_bl r1.ok.zt).res r1.ok r1.ext)⟩
/-- list(range(..)) -/
theorem reps_ints {H : Hp} {Z : Addr → Prop} {α : Type} (f : α → Int) : ∀ l : List α, Reps X.K H Z (l.map fun k => T.int (f k)) [] (l.map fun k => V.int (f k))
  | [] => by simp [Reps]
  | x :: l => by
    simp only [List.map_cons, Reps]
    exact ⟨[], [], _, _, rfl, rfl, by simp [Rep], reps_ints f l⟩
theorem ve_lrg2 (hc : X.calm = true) {a b : Expr} {A B : E} {p p2 pos pos2 : Pos} (hg : Gl X "list") (hm : X.mg "list" = none) (hg2 : Gl X "range") (hm2 : X.mg "range" = none) (ha : PE X a (tV X.K (wpE Φ A))) (hb : PE X b (tV X.K (wpE Φ B))) (hs : notStar a = true ∧ notStar b = true) :
    PE X (.Call (.Name "list" p) [.Call (.Name "range" p2) [a, b] [] pos2] [] pos) (tV X.K (wpE Φ (.lrg A B))) := by
  refine (pe_listRg hc hg hm (prg_2 hg2 hm2 ha hb (star_cons hs.1) (star_cons hs.2) (star_any (by simp [hs.2]))) (star_cons rfl)).imp fun σ H Q ⟨Γ, Z, Os, Qt, ok, w, k⟩ => ?_
  simp only [wpE] at w
  refine two (r := fun v u H2 Q => ∃ i j, v = V.int i ∧ u = V.int j ∧ RgOk i j ∧ ∀ q, H2 q = none → Q (.ref q) (upd H2 q (.lst (rgV i j)))) ok w fun x y Γ2 v u H2 Z2 Os2 o1 o2 q ok2 r1 r2 e => ?_
  obtain ⟨m, n, rfl, rfl, b, q⟩ := q
  exact ⟨m, n, r1.int_inv, r2.int_inv, b, fun p np => k _ _ _ _ _ _ _ q ((Nw.lst (reps_ints (fun k : Nat => m + (k : Int)) _) ok2.zt np).res ok2 e)⟩
theorem ve_lrg1 (hc : X.calm = true) {b : Expr} {B : E} {p p2 pos pos2 : Pos} (hg : Gl X "list") (hm : X.mg "list" = none) (hg2 : Gl X "range") (hm2 : X.mg "range" = none) (hb : PE X b (tV X.K (wpE Φ B))) (hs : notStar b = true) :
    PE X (.Call (.Name "list" p) [.Call (.Name "range" p2) [b] [] pos2] [] pos) (tV X.K (wpE Φ (.lrg (.int 0) B))) := by
  refine (pe_listRg hc hg hm (prg_1 hg2 hm2 hb (star_cons hs)) (star_cons rfl)).imp fun σ H Q ⟨Γ, Z, Os, Qt, ok, w, k⟩ => ?_
  simp only [wpE] at w
  refine ⟨Γ, Z, Os, _, ok, w, fun y Γ1 v H1 Z1 Os1 o1 q1 r1 => ?_⟩
  obtain ⟨m, n, hm, rfl, b, q⟩ := q1
  cases hm
  exact ⟨n, r1.rep.int_inv, b, fun p np => k _ _ _ _ _ _ _ q ((Nw.lst (reps_ints (fun k : Nat => (0 : Int) + (k : Int)) _) r1.ok.zt np).res r1.ok r1.exto)⟩
/-- min, max of two values: ints for now -/
def mmN (mx : Bool) : Str := if mx then "max" else "min"
theorem mmT (hc : X.calm = true) (mx : Bool) : CallR X (.builtin (if mx then "max" else "min")) (fun xs H Q => ∃ i j, xs = [.int i, .int j] ∧ Q (.int (if mx then (if j > i then j else i) else (if j < i then j else i))) H) := by
  cases mx with
  | true => exact call_max2 hc
  | false => exact call_min2 hc
end
end PL

end
section
set_option maxHeartbeats 4000000
/-! PQv: min, max; sorted(set(xs)). -/
namespace PL
open PySem PySem.Spec L2
open PyProof.Rows hiding St
section
variable {X : Cx} {Φ : Nat → Spec}
theorem CallR.or {f : Value} {r1 r2 : List V → Hp → VK → Prop} (h1 : CallR X f r1) (h2 : CallR X f r2) : CallR X f (fun vs H Q => r1 vs H Q ∨ r2 vs H Q) := fun pins s σ H xs us Q I r h => by
  rcases h with h | h
  · exact h1 pins s σ H xs us Q I r h
  · exact h2 pins s σ H xs us Q I r h
theorem ve_mm (hc : X.calm = true) (hu : X.A.units + 80 < cLine) {mx : Bool} {a b : Expr} {A B : E} {p pos : Pos} (hg : Gl X (mmN mx)) (hm : X.mg (mmN mx) = none) (ha : PE X a (tV X.K (wpE Φ A))) (hb : PE X b (tV X.K (wpE Φ B))) (hs : notStar a = true ∧ notStar b = true) :
    PE X (.Call (.Name (mmN mx) p) [a, b] [] pos) (tV X.K (wpE Φ (.mm mx A B))) := by
  refine (pe_callV (CallR.or (mmT hc mx) (mmDT hc hu mx)) hg hm (by cases mx <;> rfl) (.inl ⟨_, rfl⟩) (pa_cons ha (pa_cons hb pa_nil (star_cons hs.2)) (star_cons hs.1)) (by cases mx <;> decide) (by cases mx <;> decide) (by simp [hs])).imp fun σ H Q ⟨Γ, Z, Os, Qt, ok, w, k⟩ => ?_
  simp only [wpE] at w
  refine two (r := fun v u H2 Q => (∃ i j, [v, u] = [V.int i, V.int j] ∧ Q (.int (if mx then (if j > i then j else i) else (if j < i then j else i))) H2) ∨ rMm X.K mx [v, u] H2 Q) ok w fun x y Γ2 v u H2 Z2 Os2 o1 o2 q ok2 r1 r2 e => ?_
  rcases q with ⟨i, j, rfl, rfl, q⟩ | ⟨ho, sa, sb, fa, fb, q⟩
  · exact .inl ⟨i, j, by rw [r1.int_inv, r2.int_inv], k _ _ _ _ _ _ _ q ((Nw.scalar rep_int ok2.zt).res ok2 e)⟩
  · have n1 := r1.nil _ fa
    have n2 := r2.nil _ fb
    subst n1 n2
    exact .inr ⟨v, u, x, y, Z2, rfl, ok2.zt, r1, r2, ho, sa, sb, fun v' n => k _ _ _ _ _ _ _ q (n.res ok2 e)⟩
theorem ve_mml (hc : X.calm = true) (hu : X.A.units + 80 < cLine) {mx : Bool} {a : Expr} {A : P} {p pos : Pos} (hg : Gl X (mmN mx)) (hm : X.mg (mmN mx) = none) (ha : PE X a (tP X.K A (wpP Φ A))) (hs : notStar a = true) :
    PE X (.Call (.Name (mmN mx) p) [a] [] pos) (tV X.K (wpE Φ (.mml mx A))) := by
  refine (pe_callV (mmLT hc hu mx) hg hm (by cases mx <;> rfl) (.inl ⟨_, rfl⟩) (pa_cons ha pa_nil (star_cons hs)) (by cases mx <;> decide) (by cases mx <;> decide) (by simp [hs])).imp fun σ H Q ⟨Γ, Z, Os, Qt, ok, w, k⟩ => ?_
  simp only [wpE] at w
  refine ⟨Γ, Z, Os, _, ok, w, fun x Γ1 v H1 Z1 Os1 o1 q1 r1 => ?_⟩
  obtain ⟨o, rx⟩ := r1.rep
  obtain ⟨ow, xs, n, ns, rfl, e, q⟩ := q1
  obtain ⟨a, vs, os', rfl, fz, rs⟩ := rx.lst_any
  have := intsT_vals rs e
  subst this
  exact ⟨a, n, ns, rfl, fz, k _ _ _ _ _ _ _ q ((Nw.scalar rep_int r1.ok.zt).res r1.ok r1.ext)⟩
theorem ve_sset (hc : X.calm = true) (hu : X.A.units + 80 < cLine) {a : Expr} {A : P} {p p2 pos pos2 : Pos} (hg : Gl X "sorted") (hm : X.mg "sorted" = none) (hg2 : Gl X "set") (hm2 : X.mg "set" = none) (ha : PE X a (tP X.K A (wpP Φ A))) (hs : notStar a = true) :
    PE X (.Call (.Name "sorted" p) [.Call (.Name "set" p2) [a] [] pos2] [] pos) (tV X.K (wpE Φ (.sset A))) := by
  refine (pe_callV (sortedB hc hu) hg hm rfl (.inl ⟨_, rfl⟩) (pa_cons (pe_callV (setT hc hu) hg2 hm2 rfl (.inr ⟨_, rfl⟩) (pa_cons ha pa_nil (star_cons hs)) (by decide) (by decide) (by simp [hs])) pa_nil (star_cons rfl)) (by decide) (by decide) rfl).imp fun σ H Q ⟨Γ, Z, Os, Qt, ok, w, k⟩ => ?_
  simp only [wpE] at w
  refine ⟨Γ, Z, Os, _, ok, w, fun x Γ1 v H1 Z1 Os1 o1 q1 r1 => ?_⟩
  obtain ⟨o, rx⟩ := r1.rep
  obtain ⟨ow, xs, rfl, f, len, hk, hso, q⟩ := q1
  obtain ⟨a, vs, rfl, fz, rs⟩ := rx.lst_inv f
  obtain ⟨L, rfl, rfl, hL⟩ := repl_of rs hk
  refine ⟨a, L, Z1, rfl, .inl fz, hL, by simpa using len, fun b L' hb sub all nd => ?_⟩
  have ex : Ext [] H1 Z1 (upd H1 b (SetBO X.prog X.w b (kL L'))) Z1 [] := ⟨fun a u q _ => upd_keep hb a u q, fun a z => z, fun a z => .inl z, fun a m => absurd m (by simp)⟩
  have hL' : RepL X.K (upd H1 b (SetBO X.prog X.w b (kL L'))) Z1 L' := fun q m =>
    ⟨(hL q (sub q m)).1, (hL q (sub q m)).2.keep (fun _ z => z) (fun a u _ e => upd_keep hb a u e) _ fun a m => absurd m (by simp)⟩
  have mem : ∀ t, t ∈ L'.map (·.2) ↔ t ∈ L.map (·.2) := fun t => by
    constructor
    · intro m
      obtain ⟨p, hp, rfl⟩ := List.mem_map.mp m
      exact List.mem_map.mpr ⟨p, sub p hp, rfl⟩
    · intro m
      obtain ⟨p, hp, rfl⟩ := List.mem_map.mp m
      exact all p hp
  have ok' := r1.ok.ext0 ex (upd_zt r1.ok.zt)
  refine ⟨b, L', Z1, rfl, upd_same, ok'.zt, hL', sortable_sub hso fun y m => (mem y).mp m, fun ts v H' Z' os' pm n => ?_⟩
  refine k _ _ _ _ _ _ _ (q ts (pm.nodup_iff.mpr nd) fun z => (pm.mem_iff).trans (mem z)) (n.res ok' (r1.ext.trans ?_))
  have := ex.frame Os1.flatten
  rw [List.append_nil] at this
  simpa using this
end
end PL

end
section
set_option maxHeartbeats 4000000
/-! PLh: methods; owned things that change; calls of defs. -/
namespace PL
open PySem PySem.Spec L2
open PyProof.Rows hiding St

/-! ### methods -/
def notCall0 : Expr → Bool
  | .Call _ _ _ _ => false
  | _ => true
theorem attr_base {o : Expr} {m : Str} {env : PySem.Env} {w : Sem Value} (h : notCall0 o = true) : attributeBase o m env w = w := by
  unfold attributeBase
  cases o <;> first | rfl | cases h
def lineOk (apos cpos : Pos) : Bool := apos.endLine == cpos.line
theorem few_ok {e : Expr} {es : List Expr} {cpos : Pos} {env : PySem.Env} (hs : (e :: es).all notStar = true) (hn : (e :: es).length < 29) :
    ((backTo cpos (starEach (e :: es) env)).all (fun x => !x.1) && (backToKw cpos (keywordEach [] env)).all (fun x => x.1.isSome)
      && decide ((e :: es).length + ([] : List Keyword).length + (if ([] : List Keyword).isEmpty then 0 else 1) < 30)) = true := by
  have q := star_any (pos := cpos) (env := env) hs
  have q1 : (backTo cpos (starEach (e :: es) env)).all (fun x => !x.1) = true := by
    rw [List.all_eq_true]
    intro x hx
    have := List.any_eq_false.mp q x hx
    simpa using this
  rw [q1]
  have : decide ((e :: es).length + ([] : List Keyword).length + (if ([] : List Keyword).isEmpty then 0 else 1) < 30) = true := by
    apply decide_eq_true
    simp only [List.length_nil, List.isEmpty_nil, if_true]
    omega
  rw [this]
  rfl
section
variable {X : Cx} {Φ : Nat → Spec}
theorem pe_bmV {T id : String} {r : V → List V → Hp → VK → Prop} {name : Str} {o e : Expr} {es : List Expr} {to : TE} {t : TA} {apos cpos : Pos} (pa : PlainAttrs T) (slot : Slot T name id) (hty : typeOf (.builtin id) = pure (.type "method_descriptor")) (hm : MtR X id r) (ho : PE X o to) (ha : PA X (e :: es) t)
    (hb : notCall0 o = true) (hl : lineOk apos cpos = true) (hs : (e :: es).all notStar = true) (hn : (e :: es).length < 29) : PE X (.Call (.Attribute o name apos) (e :: es) [] cpos) (tBM X.K T r to t) := by
  have hs' := hs
  simp only [List.all_cons, Bool.and_eq_true] at hs'
  exact pe_bm pa slot hty hm ho ha (attr_base hb) (few_ok hs hn) hl (star_cons hs'.1) (star_any hs'.2)
/-- d.get(k, x) -/
def rGetP (K : PySem.W.Frag) : V → List V → Hp → VK → Prop := fun x vs H Q => ∃ y z o ks ts t Z o1 o2 dv, vs = [y, z] ∧ Rep K H Z (.dic o ks ts) o1 x ∧ Rep K H Z t o2 y ∧ isFs ts = true ∧ keyFit t ks = true ∧ Rep K H Z dv [] z ∧
  ∀ w, Rep K H Z (((keyIx t ks).bind fun j => ts[j]?).getD dv) [] w → Q w H
theorem mt_getP (hu : X.A.units + 1 < cLine) : MtR X "dict.get" (rGetP X.K) := by
  intro pins s σ H x vs v us Q I rx rv h
  obtain ⟨y, z, o, ks, ts, t, Z, o1, o2, dv, rfl, p1, p2, fs, fit, p3, q⟩ := h
  obtain ⟨u1, u2, rfl, r1, r2⟩ := rv.two
  obtain ⟨a, ws, os', rfl, d, rs⟩ := p1.dic_inv
  cases rx
  have rs := rs
  rw [rs.nil _ fs] at rs
  obtain ⟨H1, I1, g, back⟩ := dic_look I d p2 fit
  refine d_get2 hu I1 g r1 r2 fun w' s' I' rw' => ⟨_, H, back s' I', rw', q _ ?_⟩
  cases e : keyIx t ks with
  | none => simpa using p3
  | some j =>
    simp only [Option.bind_some]
    cases e2 : ts[j]? with
    | none =>
      have : ws[j]? = none := by
        rw [List.getElem?_eq_none_iff] at e2 ⊢
        rw [← rs.length]; exact e2
      rw [this]
      simpa using p3
    | some t' =>
      obtain ⟨v, o, h1, h2, h3⟩ := rs.get e2
      rw [h1]
      have : o = [] := by
        cases o with
        | nil => rfl
        | cons b o => exact absurd (h3 b (by simp)) (by simp)
      subst this
      simpa using h2
theorem tyV_dic {H : Hp} {Z : Addr → Prop} {x : T} {os : List Addr} {v : V} (r : Rep X.K H Z x os v) (h : isDic x = true) : tyV X.K "dict" v H := by
  cases x <;> first | cases h | skip
  obtain ⟨a, ws, os', rfl, d, rs⟩ := r.dic_inv
  refine .inr (.inr (.inl ⟨rfl, ?_⟩))
  rcases d with ⟨kk, _, _, q⟩ | ⟨kk, _, _, q⟩
  · exact .inl ⟨_, q⟩
  · exact .inr ⟨_, q⟩
theorem tyV_lst {H : Hp} {Z : Addr → Prop} {x : T} {os : List Addr} {v : V} (r : Rep X.K H Z x os v) (h : isLst x = true) : tyV X.K "list" v H := by
  cases x <;> first | cases h | skip
  obtain ⟨a, ws, os', rfl, d, rs⟩ := r.lst_any
  exact .inl ⟨rfl, ws, .inl d⟩
theorem ve_get (hu : X.A.units + 1 < cLine) {o e f : Expr} {A : P} {B C : E} {apos cpos : Pos} (ho : PE X o (tP X.K A (wpP Φ A))) (he : PE X e (tV X.K (wpE Φ B))) (hf : PE X f (tV X.K (wpE Φ C)))
    (hb : notCall0 o = true) (hl : lineOk apos cpos = true) (hs : notStar e = true ∧ notStar f = true) : PE X (.Call (.Attribute o "get" apos) [e, f] [] cpos) (tV X.K (wpE Φ (.get A B C))) :=
  (pe_bmV PySem.F.plainAttrs_dict PySem.F.slot_dict_get PySem.F.type_dict_get (mt_getP hu) ho (pa_cons he (pa_cons hf pa_nil (star_cons hs.2)) (star_cons hs.1)) hb hl (by simp [hs]) (by simp)).imp fun σ H Q ⟨Γ, Z, Os, Qt, ok, w, k⟩ => by
    simp only [wpE] at w
    refine ⟨Γ, Z, Os, _, ok, w, fun x Γ1 v H1 Z1 Os1 o1 q1 r1 => ?_⟩
    obtain ⟨o, rx⟩ := r1.rep
    refine ⟨tyV_dic rx q1.1, Γ1, Z1, Os1, _, r1.ok, q1.2, fun y Γ2 v2 H2 Z2 Os2 o2 q2 r2 => ⟨Γ2, Z2, Os2, _, r2.ok, q2, fun z Γ3 v3 H3 Z3 Os3 o3 q3 r3 => ?_⟩⟩
    obtain ⟨x', lk, o, ks, vs, rfl, fit, fz, fs, q⟩ := q3
    obtain ⟨o', rx'⟩ := r1.later r3.ok (r2.exto.trans r3.exto) lk
    have rz := r3.rep
    rw [rz.nil _ fz] at rz
    have ry := r2.rep.ext r3.ext r2.own
    exact ⟨v2, v3, o, ks, vs, y, Z3, o', o2, z, rfl, rx', ry, fs, fit, rz, fun w' rw' => k _ _ _ _ _ _ _ q ((Nw.scalar rw' r3.ok.zt).res r3.ok ((r1.ext.trans r2.exto).trans r3.exto))⟩
/-- l.index(x) -/
theorem ve_index (hu : X.A.units + 65 < cLine) {o e : Expr} {A : P} {B : E} {apos cpos : Pos} (ho : PE X o (tP X.K A (wpP Φ A))) (he : PE X e (tV X.K (wpE Φ B)))
    (hb : notCall0 o = true) (hl : lineOk apos cpos = true) (hs : notStar e = true) : PE X (.Call (.Attribute o "index" apos) [e] [] cpos) (tV X.K (wpE Φ (.index A B))) :=
  (pe_bmV PySem.F.plainAttrs_list PySem.F.slot_list_index PySem.F.type_list_index (mt_indexD hu) ho (pa_cons he pa_nil (star_cons hs)) hb hl (by simp [hs]) (by simp)).imp fun σ H Q ⟨Γ, Z, Os, Qt, ok, w, k⟩ => by
    simp only [wpE] at w
    refine ⟨Γ, Z, Os, _, ok, w, fun x Γ1 v H1 Z1 Os1 o1 q1 r1 => ?_⟩
    obtain ⟨o, rx⟩ := r1.rep
    refine ⟨tyV_lst rx q1.1, Γ1, Z1, Os1, _, r1.ok, q1.2, fun y Γ2 v2 H2 Z2 Os2 o2 q2 r2 => ?_⟩
    obtain ⟨x', lk, o, xs, j, rfl, s1, s2, hj, q⟩ := q2
    obtain ⟨o', rx'⟩ := r1.later r2.ok r2.exto lk
    obtain ⟨a, ws, os', rfl, d, rs⟩ := rx'.lst_any
    have hd := dp_shp (X := X) rx' s1
    have hy := dp_shp (X := X) r2.rep s2
    unfold keyIx at hj
    obtain ⟨hlt, hp, hno⟩ := List.findIdx?_eq_some_iff_getElem.mp hj
    refine ⟨a, v2, data y, datas xs, j, data xs[j], rfl, rfl, hd, hy, s1, s2, ?_, hp, fun m z' hm hz => ?_, k _ _ _ _ _ _ _ q ((Nw.scalar rep_int r2.ok.zt).res r2.ok (r1.ext.trans r2.exto))⟩
    · rw [datas_map, List.getElem?_map, List.getElem?_eq_getElem hlt]; rfl
    · have hm' : m < xs.length := Nat.lt_trans hm hlt
      rw [datas_map, List.getElem?_map, List.getElem?_eq_getElem hm'] at hz
      cases hz
      have := hno m hm
      simpa [eqT] using this
end
end PL

end
section
set_option maxHeartbeats 4000000
/-! PLi: owned things that change; calls of defs. -/
namespace PL
open PySem PySem.Spec L2
open PyProof.Rows hiding St

section
variable {K : PySem.W.Frag} {H H' : Hp} {Z Z' : Addr → Prop} {Γ : Env} {Os : List (List Addr)} {σ : L2.St}
theorem getD_mem {Os : List (List Addr)} {i : Nat} {a : Addr} (h : a ∈ Os.getD i []) : a ∈ Os.flatten := flatten_take.mem_iff.mp (List.mem_append_left _ h)
/-- slots apart -/
theorem slots_apart {Os : List (List Addr)} (nd : Os.flatten.Nodup) {i j : Nat} (hij : i ≠ j) {a : Addr} (hi : a ∈ Os.getD i []) (hj : a ∈ Os.getD j []) : False := by
  have q := (flatten_take (Os := Os) (i := i)).nodup_iff.mpr nd
  have := (List.nodup_append.mp q).2.2 a hi a
  refine this (getD_mem (i := j) ?_) rfl
  rw [getD_set_ne hij]; exact hj
/-- the owned thing at a, slot i's own, is now u -/
theorem Ok.mut {i : Nat} {a : Addr} {t t' : T} {os1 os2 oy : List Addr} {u : HO} (ok : Ok K H Z Γ Os σ) (hi : Γ[i]? = some (some t)) (ho : Os.getD i [] = a :: os1) (hv : σ[i]? = some (some (.ref a)))
    (own : Own H Z (oy ++ Os.flatten)) (r : Rep K (upd H a u) Z t' (a :: os2) (.ref a)) (p : ∃ l, (a :: os2).Sublist l ∧ l.Perm (oy ++ (a :: os1))) :
    Ok K (upd H a u) Z (Γ.set i (some t')) (Os.set i (a :: os2)) σ ∧ ∀ {os0 : List Addr} {H0 : Hp} {Z0 : Addr → Prop}, Ext os0 H0 Z0 H Z (oy ++ Os.flatten) → Ext os0 H0 Z0 (upd H a u) Z (Os.set i (a :: os2)).flatten := by
  have il : i < Γ.length := ok.lt hi
  have al : a ∈ Os.getD i [] := by rw [ho]; exact List.mem_cons_self
  have am : a ∈ Os.flatten := getD_mem al
  have ne : ∀ b o, H b = some o → b ≠ a → upd H a u b = some o := fun b o q n => by rw [upd_ne n]; exact q
  obtain ⟨l, sl, pl⟩ := p
  have pm : (oy ++ (a :: os1) ++ (Os.set i []).flatten).Perm (oy ++ Os.flatten) := by
    rw [List.append_assoc]
    refine List.Perm.append_left oy ?_
    have := flatten_take (Os := Os) (i := i)
    rw [ho] at this
    exact this
  have ownL : Own H Z (l ++ (Os.set i []).flatten) := own.perm (pm.symm.trans (pl.symm.append_right _))
  have ownN : Own H Z (a :: os2 ++ (Os.set i []).flatten) := ownL.sublist (sl.append_right _)
  have ownN' : Own (upd H a u) Z (a :: os2 ++ (Os.set i []).flatten) := ⟨ownN.nd, ownN.nz, fun b m => by
    by_cases e : b = a
    · exact ⟨u, by rw [e, upd_same]⟩
    · obtain ⟨o, q⟩ := ownN.tr b m; exact ⟨o, ne b o q e⟩⟩
  have nza : ¬ Z a := ok.own.nz a am
  refine ⟨⟨by rw [List.length_set]; exact ok.ls, by rw [List.length_set, List.length_set]; exact ok.lo, fun j t0 h => ?_, ownN'.perm (flatten_put (by rw [ok.lo]; exact il)).symm, upd_zt ok.zt⟩, fun {os0 H0 Z0} e => ?_⟩
  · by_cases ej : i = j
    · subst ej
      rw [List.getElem?_set_self il] at h
      cases h
      exact ⟨_, hv, by rw [getD_set_self (by rw [ok.lo]; exact il)]; exact r⟩
    · rw [List.getElem?_set_ne ej] at h
      obtain ⟨w, h1, h2⟩ := ok.get j t0 h
      refine ⟨w, h1, ?_⟩
      rw [getD_set_ne ej]
      exact h2.keep (fun _ z => z) (fun b o z q => ne b o q fun e => nza (e ▸ z)) t0 fun b m o q => ne b o q fun e => slots_apart ok.own.nd ej al (e ▸ m)
  · have sub : ∀ b ∈ (Os.set i (a :: os2)).flatten, b ∈ oy ++ Os.flatten := fun b m => by
      have m1 := (flatten_put (os := a :: os2) (by rw [ok.lo]; exact il)).mem_iff.mp m
      have m2 : b ∈ l ++ (Os.set i []).flatten := by
        rcases List.mem_append.mp m1 with q | q
        · exact List.mem_append_left _ (sl.subset q)
        · exact List.mem_append_right _ q
      exact ((pl.append_right _).trans pm).mem_iff.mp m2
    refine Ext.sub ⟨fun b o q n => ?_, e.zz, e.zn, e.fr⟩ sub
    have q' := e.same b o q n
    refine ne b o q' fun eb => ?_
    subst eb
    rcases e.fr b (List.mem_append_right _ am) with z | z
    · exact n z
    · rw [z] at q; cases q
/-- .. what the slot holds -/
theorem Ok.lstAt {i : Nat} {xs : List T} (ok : Ok K H Z Γ Os σ) (hi : Γ[i]? = some (some (.lst true xs))) : ∃ a vs os1, σ[i]? = some (some (.ref a)) ∧ Os.getD i [] = a :: os1 ∧ H a = some (.lst vs) ∧ Reps K H Z xs os1 vs := by
  obtain ⟨v, h1, h2⟩ := ok.get i _ hi
  simp only [Rep] at h2
  obtain ⟨a, vs, rfl, os', e, f, r⟩ := h2
  exact ⟨a, vs, os', h1, e, f, r⟩
theorem Ok.dicAt {i : Nat} {ks xs : List T} (ok : Ok K H Z Γ Os σ) (hi : Γ[i]? = some (some (.dic true ks xs))) : ∃ a vs os1, σ[i]? = some (some (.ref a)) ∧ Os.getD i [] = a :: os1 ∧ DicAt (fun u => H a = some u) ks vs ∧ Reps K H Z xs os1 vs := by
  obtain ⟨v, h1, h2⟩ := ok.get i _ hi
  simp only [Rep] at h2
  obtain ⟨a, vs, rfl, os', e, f, r⟩ := h2
  exact ⟨a, vs, os', h1, e, f, r⟩
/-- what a owns stays beside the change at a -/
theorem Reps.upd {a : Addr} {xs : List T} {os : List Addr} {vs : List V} {u : HO} (r : Reps K H Z xs os vs) (nz : ¬ Z a) (na : a ∉ os) : Reps K (upd H a u) Z xs os vs :=
  r.keep (fun _ z => z) (fun b o z q => (upd_ne (show b ≠ a from fun e => nz (e ▸ z))).trans q) xs fun b m o q => (upd_ne (show b ≠ a from fun e => na (e ▸ m))).trans q
theorem Rep.upd {a : Addr} {x : T} {os : List Addr} {v : V} {u : HO} (r : Rep K H Z x os v) (nz : ¬ Z a) (na : a ∉ os) : Rep K (upd H a u) Z x os v :=
  r.keep (fun _ z => z) (fun b o z q => (upd_ne (show b ≠ a from fun e => nz (e ▸ z))).trans q) x fun b m o q => (upd_ne (show b ≠ a from fun e => na (e ▸ m))).trans q
theorem Ok.headNodup {i : Nat} {a : Addr} {os1 : List Addr} (ok : Ok K H Z Γ Os σ) (ho : Os.getD i [] = a :: os1) : a ∉ os1 ∧ ¬ Z a := by
  have q := (ok.out i)
  rw [ho] at q
  refine ⟨fun m => ?_, q.nz a (by simp)⟩
  have := q.nd
  rw [List.cons_append, List.nodup_cons] at this
  exact this.1 (List.mem_append_left _ m)
theorem Reps.dropLast : ∀ {ts : List T} {vs : List V}, Reps K H Z ts [] vs → Reps K H Z ts.dropLast [] vs.dropLast := fun {ts vs} h => by
  rw [List.dropLast_eq_take, List.dropLast_eq_take, h.length]
  exact h.take _
theorem Reps.nilOs {ts : List T} {vs : List V} {i : Nat} {t : T} (r : Reps K H Z ts [] vs) (h : ts[i]? = some t) : ∃ v, vs[i]? = some v ∧ Rep K H Z t [] v := by
  obtain ⟨v, o, h1, h2, h3⟩ := r.get h
  cases o with
  | nil => exact ⟨v, h1, h2⟩
  | cons b o => exact absurd (h3 b (by simp)) (by simp)
end

section
variable {X : Cx} {Φ : Nat → Spec}
/-- l.pop() -/
theorem ve_pop {i : Nat} {o : Expr} {apos cpos : Pos} (ho : PE X o (tVar i)) (hb : notCall0 o = true) (hl : lineOk apos cpos = true) : PE X (.Call (.Attribute o "pop" apos) [] [] cpos) (tV X.K (wpE Φ (.pop i))) :=
  (pe_bm0 PySem.F.plainAttrs_list PySem.F.slot_list_pop PySem.F.type_list_pop mt_pop ho (attr_base hb) hl).imp fun σ H Q ⟨Γ, Z, Os, Qt, ok, w, k⟩ => by
    simp only [wpE] at w
    obtain ⟨xs, y, h1, h2, h3, q⟩ := w
    obtain ⟨a, vs, os1, e1, e2, e3, r⟩ := ok.lstAt h1
    have r := r
    have n1 : os1 = [] := r.nil _ h3
    subst n1
    obtain ⟨na, nz⟩ := ok.headNodup e2
    rw [List.getLast?_eq_getElem?] at h2
    obtain ⟨v, hv, rv⟩ := r.nilOs h2
    rw [r.length] at hv
    have rep' : Rep X.K (upd H a (.lst vs.dropLast)) Z (.lst true xs.dropLast) [a] (.ref a) := by
      simp only [Rep]
      exact ⟨a, _, rfl, [], rfl, upd_same, r.dropLast.upd nz (by simp)⟩
    obtain ⟨ok', ext'⟩ := ok.mut (oy := []) (u := .lst vs.dropLast) h1 e2 e1 (by simpa using ok.own) rep' ⟨[a], List.Sublist.refl _, by simp⟩
    refine ⟨_, e1, .inl ⟨rfl, vs, .inl (.inl e3)⟩, a, vs, v, rfl, rfl, e3, hv, k y _ v _ Z _ [] q ⟨ok', rv.upd nz (by simp), by simpa using ok'.own, ?_⟩⟩
    simpa using ext' (by simpa using (Ext.refl (os := Os.flatten)))
end
end PL

end
section
set_option maxHeartbeats 4000000
/-! PLj: calls of defs: the promise of a def by plain values; arguments that are lent. -/
namespace PL
open PySem PySem.Spec L2
open PyProof.Rows hiding St

def maskOf : Es → List Bool
  | .nil => []
  | .cons _ es => false :: maskOf es
  | .lend _ es => true :: maskOf es
/-- the arguments that aren't lent own nothing -/
def argsM : List Bool → List T → Bool
  | false :: m, t :: ts => isF t && argsM m ts
  | true :: m, _ :: ts => argsM m ts
  | _, _ => true
theorem argsF_M : ∀ (es : Es) (ts : List T), argsF es ts = argsM (maskOf es) ts
  | .nil, ts => by cases ts <;> rfl
  | .cons e es, [] => rfl
  | .cons e es, t :: ts => by simp only [argsF, maskOf, argsM]; rw [argsF_M es ts]
  | .lend i es, [] => rfl
  | .lend i es, t :: ts => by simp only [argsF, maskOf, argsM]; rw [argsF_M es ts]
/-- the lent ones of a list -/
def lnt {α : Type} : List Bool → List α → List α
  | true :: m, x :: xs => x :: lnt m xs
  | false :: m, _ :: xs => lnt m xs
  | _, _ => []
section
variable (K : PySem.W.Frag) (H : Hp) (Z : Addr → Prop)
def RepsO : List T → List (List Addr) → List V → Prop
  | [], [], [] => True
  | t :: ts, o :: os, v :: vs => Rep K H Z t o v ∧ RepsO ts os vs
  | _, _, _ => False
end
/-- a def's promise: mask m (lent parameters), what it is asked for -/
def spT (K : PySem.W.Frag) (m : List Bool) (φ : Spec) : Sp := fun vs H Q _ => vs.length = m.length ∧ ∃ ts Oss Z Qt, RepsO K H Z ts Oss vs ∧ argsM m ts = true ∧ Own H Z Oss.flatten ∧ Zt H Z ∧ φ ts Qt ∧
  ∀ t io v H' Z' os Oio, Qt t io → Rep K H' Z' t os v → RepsO K H' Z' io Oio (lnt m vs) → Own H' Z' (os ++ Oio.flatten) → Ext Oss.flatten H Z H' Z' (os ++ Oio.flatten) → Zt H' Z' → Q v H'
section
variable {K : PySem.W.Frag} {H H' : Hp} {Z Z' : Addr → Prop} {σ : L2.St}
theorem Reps.toO : ∀ {ts : List T} {os : List Addr} {vs : List V}, Reps K H Z ts os vs → ∃ Oss, RepsO K H Z ts Oss vs ∧ Oss.flatten = os
  | [], os, vs, h => by
    simp only [Reps] at h
    obtain ⟨rfl, rfl⟩ := h
    exact ⟨[], trivial, rfl⟩
  | t :: ts, os, vs, h => by
    simp only [Reps] at h
    obtain ⟨o1, o2, v, vs', rfl, rfl, r1, r2⟩ := h
    obtain ⟨Oss, q, e⟩ := r2.toO
    exact ⟨o1 :: Oss, ⟨r1, q⟩, by rw [List.flatten_cons, e]⟩
theorem RepsO.len : ∀ {ts : List T} {Oss : List (List Addr)} {vs : List V}, RepsO K H Z ts Oss vs → ts.length = vs.length ∧ Oss.length = vs.length
  | [], [], [], _ => ⟨rfl, rfl⟩
  | t :: ts, o :: os, v :: vs, h => by
    obtain ⟨h1, h2⟩ := RepsO.len h.2
    exact ⟨by simp [h1], by simp [h2]⟩
  | [], [], _ :: _, h => h.elim
  | [], _ :: _, _, h => h.elim
  | _ :: _, [], _, h => h.elim
  | _ :: _, _ :: _, [], h => h.elim
/-- the values at the lent places are those of the frame -/
def Lnt (σ : L2.St) : Es → List V → Prop
  | .nil, _ => True
  | .cons _ es, vs => Lnt σ es vs.tail
  | .lend i es, vs => (∃ v, vs.head? = some v ∧ σ[i]? = some (some v)) ∧ Lnt σ es vs.tail
/-- the list of arguments' reading -/
def tL (K : PySem.W.Frag) (es : Es) (w : MA) : TA := fun σ H Q => ∃ Γ Z Os Qt, Ok K H Z Γ Os σ ∧ w Γ Qt ∧
  ∀ ts Γ' vs H' Z' Os' os, Qt ts Γ' → Ress K Os.flatten H Z σ ts Γ' vs H' Z' Os' os → Lnt σ es vs → vs.length = (maskOf es).length → Γ'.length = Γ.length → Q vs H'
end
section
variable {X : Cx} {Φ : Nat → Spec}
theorem vl_nil : PA X [] (tL X.K .nil (wpEs Φ .nil)) := pa_nil.imp fun σ H Q ⟨Γ, Z, Os, Qt, ok, w, k⟩ => by
  simp only [wpEs] at w
  exact k [] Γ [] H Z Os [] w ⟨ok, by simp [Reps], ok.own, Ext.refl⟩ trivial rfl rfl
theorem Ok.len {K : PySem.W.Frag} {H H' : Hp} {Z Z' : Addr → Prop} {Γ Γ' : Env} {Os Os' : List (List Addr)} {σ : L2.St} (a : Ok K H Z Γ Os σ) (b : Ok K H' Z' Γ' Os' σ) : Γ'.length = Γ.length := by
  rw [← a.ls, ← b.ls]
theorem vl_cons {e : Expr} {es : List Expr} {E : E} {Es : Es} (h : PE X e (tV X.K (wpE Φ E))) (hs : PA X es (tL X.K Es (wpEs Φ Es))) (hst : starEach (e :: es) X.env = (false, eval e X.env) :: starEach es X.env) : PA X (e :: es) (tL X.K (.cons E Es) (wpEs Φ (.cons E Es))) :=
  (pa_cons h hs hst).imp fun σ H Q ⟨Γ, Z, Os, Qt, ok, w, k⟩ => by
    simp only [wpEs] at w
    exact ⟨Γ, Z, Os, _, ok, w, fun t Γ1 v H1 Z1 Os1 o1 q1 r1 => ⟨Γ1, Z1, Os1, _, r1.ok, q1, fun ts Γ2 vs H2 Z2 Os2 o2 q2 r2 l le _ => k _ _ _ _ _ _ _ q2 (r1.cons r2) l (by simp [maskOf, le]) (ok.len r2.ok)⟩⟩
theorem Ress.lend {K : PySem.W.Frag} {os0 : List Addr} {H H2 : Hp} {Z Z2 : Addr → Prop} {σ : L2.St} {ts : List T} {Γ2 : Env} {vs : List V} {Os2 : List (List Addr)} {o2 : List Addr} {i : Nat} {t : T} {v : V} (r : Ress K os0 H Z σ ts Γ2 vs H2 Z2 Os2 o2) (e : Γ2[i]? = some (some t)) (hv : σ[i]? = some (some v)) :
    Ress K os0 H Z σ (t :: ts) (Γ2.set i none) (v :: vs) H2 Z2 (Os2.set i []) (Os2.getD i [] ++ o2) := by
  obtain ⟨v', h1, h2⟩ := r.ok.get i t e
  rw [hv] at h1
  cases h1
  have pm : (o2 ++ Os2.flatten).Perm ((Os2.getD i [] ++ o2) ++ (Os2.set i []).flatten) := by
    refine ((flatten_take (Os := Os2) (i := i)).symm.append_left o2).trans ?_
    rw [← List.append_assoc]
    exact List.perm_append_comm.append_right _
  refine ⟨r.ok.drop i, ?_, r.own.perm pm, r.ext.sub fun a m => pm.mem_iff.mpr m⟩
  simp only [Reps]
  exact ⟨_, _, v, vs, rfl, rfl, h2, r.rep⟩
theorem vl_lend {i : Nat} {e : Expr} {es : List Expr} {Es : Es} (h : PE X e (tVar i)) (hs : PA X es (tL X.K Es (wpEs Φ Es))) (hst : starEach (e :: es) X.env = (false, eval e X.env) :: starEach es X.env) : PA X (e :: es) (tL X.K (.lend i Es) (wpEs Φ (.lend i Es))) :=
  (pa_cons h hs hst).imp fun σ H Q ⟨Γ, Z, Os, Qt, ok, w, k⟩ => by
    simp only [wpEs] at w
    obtain ⟨⟨t0, h0⟩, w⟩ := w
    obtain ⟨v, h4, _⟩ := ok.get i t0 h0
    exact ⟨v, h4, Γ, Z, Os, _, ok, w, fun ts Γ2 vs H2 Z2 Os2 o2 ⟨t, e, q⟩ r2 l le _ => k _ _ _ _ _ _ _ q (r2.lend e h4) ⟨⟨v, rfl, h4⟩, l⟩ (by simp [maskOf, le]) (by rw [List.length_set]; exact ok.len r2.ok)⟩
theorem vl_va {es : List Expr} {Es : Es} (h : PA X es (tL X.K Es (wpEs Φ Es))) : PA X es (tA X.K (wpEs Φ Es)) := h.imp fun σ H Q ⟨Γ, Z, Os, Qt, ok, w, k⟩ =>
  ⟨Γ, Z, Os, Qt, ok, w, fun ts Γ' vs H' Z' Os' os q r _ _ _ => k _ _ _ _ _ _ _ q r⟩
/-- what is beside a call stays -/
theorem Ok.beside {K : PySem.W.Frag} {H H' : Hp} {Z Z' : Addr → Prop} {Γ : Env} {Os : List (List Addr)} {σ : L2.St} {os os' : List Addr} (ok : Ok K H Z Γ Os σ) (own : Own H Z (os ++ Os.flatten)) (e : Ext os H Z H' Z' os') (o' : Own H' Z' os') (zt : Zt H' Z') :
    Ok K H' Z' Γ Os σ ∧ Own H' Z' (os' ++ Os.flatten) := by
  have own1 : Own H Z (Os.flatten ++ os) := own.perm List.perm_append_comm
  have own2 := (own1.frame e o').perm List.perm_append_comm
  refine ⟨⟨ok.ls, ok.lo, fun i t h => ?_, own2.right, zt⟩, own2⟩
  obtain ⟨v, h1, h2⟩ := ok.get i t h
  refine ⟨v, h1, h2.keep e.zz (e.keepZ own.left) t fun a m u q => e.same a u q fun n => ?_⟩
  exact own1.apart (getD_mem m) n
/-- the lent ones back in their slots -/
theorem Ok.backs {K : PySem.W.Frag} {H : Hp} {Z : Addr → Prop} {σ : L2.St} : ∀ (es : Es) {vs : List V} {io : List T} {Oio : List (List Addr)} {Γ : Env} {Os : List (List Addr)} {os : List Addr}, Ok K H Z Γ Os σ → Lnt σ es vs → vs.length = (maskOf es).length → RepsO K H Z io Oio (lnt (maskOf es) vs) →
    Own H Z (os ++ (Oio.flatten ++ Os.flatten)) → ∃ Os', Ok K H Z (lentBack (lends es) io Γ) Os' σ ∧ Own H Z (os ++ Os'.flatten) ∧ ∀ a ∈ Os'.flatten, a ∈ Oio.flatten ++ Os.flatten
  | .nil, vs, io, Oio, Γ, Os, os, ok, _, hl, r, own => by
    refine ⟨Os, by cases io <;> exact ok, own.sublist ((List.sublist_append_right _ _).append_left os), fun a m => List.mem_append_right _ m⟩
  | .cons e es, [], io, Oio, Γ, Os, os, ok, l, hl, r, own => by simp [maskOf] at hl
  | .cons e es, v :: vs, io, Oio, Γ, Os, os, ok, l, hl, r, own => Ok.backs es (vs := vs) ok l (by simpa [maskOf] using hl) r own
  | .lend i es, [], io, Oio, Γ, Os, os, ok, l, hl, r, own => by simp [maskOf] at hl
  | .lend i es, v :: vs, [], Oio, Γ, Os, os, ok, l, hl, r, own => by cases Oio <;> exact r.elim
  | .lend i es, v :: vs, t :: io, [], Γ, Os, os, ok, l, hl, r, own => r.elim
  | .lend i es, v :: vs, t :: io, o :: Oio, Γ, Os, os, ok, l, hl, r, own => by
    obtain ⟨⟨v', e1, e2⟩, l⟩ := l
    cases e1
    have hi : i < Γ.length := by
      rw [← ok.ls]
      exact (List.getElem?_eq_some_iff.mp e2).1
    rw [List.flatten_cons] at own
    have p1 : (os ++ (o ++ Oio.flatten ++ Os.flatten)).Perm ((os ++ Oio.flatten) ++ (o ++ Os.flatten)) := by
      rw [List.append_assoc, List.append_assoc]
      refine List.Perm.append_left os ?_
      rw [← List.append_assoc, ← List.append_assoc]
      exact List.perm_append_comm.append_right _
    have own1 := own.perm p1
    have ok1 := ok.back hi e2 r.1 own1.right
    have own2 : Own H Z (os ++ (Oio.flatten ++ (Os.set i o).flatten)) := by
      have p2 : ((os ++ Oio.flatten) ++ (Os.set i o).flatten).Perm ((os ++ Oio.flatten) ++ (o ++ (Os.set i []).flatten)) := (flatten_put (by rw [ok.lo]; exact hi)).append_left _
      have := (own1.sublist ((flatten_drop.append_left o).append_left (os ++ Oio.flatten))).perm p2.symm
      rw [List.append_assoc] at this
      exact this
    obtain ⟨Os', a, b, c⟩ := Ok.backs es (vs := vs) ok1 l (by simpa [maskOf] using hl) r.2 own2
    refine ⟨Os', a, b, fun x m => ?_⟩
    rcases List.mem_append.mp (c x m) with q | q
    · rw [List.flatten_cons]; exact List.mem_append_left _ (List.mem_append_right _ q)
    · rcases List.mem_append.mp (Ok.put_sub (by rw [ok.lo]; exact hi) x q) with z | z
      · rw [List.flatten_cons]; exact List.mem_append_left _ (List.mem_append_left _ z)
      · exact List.mem_append_right _ z
theorem call_imp {f : Nat} {Es : Es} {K : PySem.W.Frag} (E0 : XK) : ∀ σ H Q, tV K (wpE Φ (.call f Es)) σ H Q → tL K Es (wpEs Φ Es) σ H fun vs H1 => spT K (maskOf Es) (Φ f) vs H1 Q E0 := fun σ H Q ⟨Γ, Z, Os, Qt, ok, w, k⟩ => by
  simp only [wpE] at w
  refine ⟨Γ, Z, Os, _, ok, w, fun ts Γ1 vs H1 Z1 Os1 os q r l le _ => ?_⟩
  obtain ⟨af, q⟩ := q
  obtain ⟨Oss, rO, eO⟩ := r.rep.toO
  refine ⟨le, ts, Oss, Z1, _, rO, by rw [← argsF_M]; exact af, by rw [eO]; exact r.own.left, r.ok.zt, q, fun t io v H' Z' os' Oio qt rt rio own' ext' zt' => ?_⟩
  rw [eO] at ext'
  obtain ⟨ok2, own2⟩ := r.ok.beside r.own ext' own' zt'
  rw [List.append_assoc] at own2
  obtain ⟨Os', a, b, c⟩ := Ok.backs Es ok2 l le rio own2
  refine k _ _ _ _ _ _ _ qt.2 ⟨a, rt, b, ?_⟩
  have e1 : Ext (Os1.flatten ++ os) H1 Z1 H' Z' (Os1.flatten ++ (os' ++ Oio.flatten)) := ext'.frame Os1.flatten
  refine (r.ext.trans (e1.wide (os1 := os ++ Os1.flatten) fun x m => ?_)).sub fun x m => ?_
  · rcases List.mem_append.mp m with q | q
    · exact List.mem_append_right _ q
    · exact List.mem_append_left _ q
  · rcases List.mem_append.mp m with q | q
    · exact List.mem_append_right _ (List.mem_append_left _ q)
    · rcases List.mem_append.mp (c x q) with q | q
      · exact List.mem_append_right _ (List.mem_append_right _ q)
      · exact List.mem_append_left _ q
/-- a def's mask of lent parameters; its parameters' names, if it may be called by them -/
abbrev Sg := List Bool × List Str
def KB0 (K : PySem.W.Frag) (fd : FuncData) (ps : List Str) : Prop := ∀ (s : Shared) (ws : List Value), K.In s.heap → ws.length = ps.length → BindsTo s fd ⟨[], ps.zip ws⟩ (ps.zip ws)
/-- a def that may be called: its name, mask -/
structure FnAt (X : Cx) (x : Str) (m : Sg) (φ : Spec) : Prop where
  ex : ∃ (k : Nat) (f : Addr) (fd : FuncData) (ps : List Str), FnOk X.prog X.w X.K X.mg X.base CX0 k f fd ps (spT X.K m.1 φ) ∧ Room k X.A ∧ X.mg x = some (.ref f) ∧ PySem.W.keepIn X.K (.ref f) = true ∧ Binds X.K fd ps [] ∧ (m.2 = [] ∨ (m.2 = ps ∧ KB0 X.K fd ps ∧ m.1.length = ps.length))
theorem ve_call {f : Nat} {x : Str} {m : Sg} {e : Expr} {es : List Expr} {Es : Es} {p pos : Pos} (F : FnAt X x m (Φ f)) (hmk : m.1 = maskOf Es) (hg : Gl X x) (hdb : (x == ("__debug__" : Str)) = false) (ha : PA X (e :: es) (tL X.K Es (wpEs Φ Es))) (hs : (e :: es).all notStar = true) :
    PE X (.Call (.Name x p) (e :: es) [] pos) (tV X.K (wpE Φ (.call f Es))) := by
  obtain ⟨k, fa, fd, ps, F, hr, hm, hk, hb, _⟩ := F.ex
  rw [hmk] at F
  simp only [List.all_cons, Bool.and_eq_true] at hs
  refine (pe_call (E := E0) (dvs := []) F hr hg hm hk hb .nil pass0 ha hdb (star_cons hs.1) (star_any hs.2)).imp fun σ H Q h => ?_
  have := call_imp E0 σ H Q h
  show tL X.K Es (wpEs Φ Es) σ H fun vs H1 => spT X.K (maskOf Es) (Φ f) (vs ++ []) H1 Q E0
  simpa only [List.append_nil] using this
theorem ve_call0 {f : Nat} {x : Str} {m : Sg} {p pos : Pos} (F : FnAt X x m (Φ f)) (hmk : m.1 = []) (hg : Gl X x) (hdb : (x == ("__debug__" : Str)) = false) : PE X (.Call (.Name x p) [] [] pos) (tV X.K (wpE Φ (.call f .nil))) := by
  obtain ⟨k, fa, fd, ps, F, hr, hm, hk, hb, _⟩ := F.ex
  rw [hmk] at F
  refine (pe_call0 (E := E0) (dvs := []) F hr hg hm hk hb .nil pass0 hdb).imp fun σ H Q h => ?_
  obtain ⟨Γ, Z, Os, Qt, ok, w, k⟩ := call_imp E0 σ H Q h
  simp only [wpEs] at w
  exact k [] Γ [] H Z Os [] w ⟨ok, by simp [Reps], ok.own, Ext.refl⟩ trivial rfl rfl
/-! ### by keywords -/
theorem _root_.L2.PK.imp {X : Cx} {kws : List Keyword} {t t' : TA} (h : PK X kws t) (i : ∀ σ H Q, t' σ H Q → t σ H Q) : PK X kws t' := ⟨fun pos pins s σ H Q I q => h.run pos pins s σ H Q I (i _ _ _ q)⟩
theorem vk_nil : PK X [] (tL X.K .nil (wpEs Φ .nil)) := pk_nil.imp fun σ H Q ⟨Γ, Z, Os, Qt, ok, w, k⟩ => by
  simp only [wpEs] at w
  exact k [] Γ [] H Z Os [] w ⟨ok, by simp [Reps], ok.own, Ext.refl⟩ trivial rfl rfl
theorem vk_cons {nm : Option Str} {kp : Pos} {e : Expr} {kws : List Keyword} {E : E} {Es : Es} (h : PE X e (tV X.K (wpE Φ E))) (hs : PK X kws (tL X.K Es (wpEs Φ Es))) : PK X (⟨nm, e, kp⟩ :: kws) (tL X.K (.cons E Es) (wpEs Φ (.cons E Es))) :=
  (pk_cons h hs).imp fun σ H Q ⟨Γ, Z, Os, Qt, ok, w, k⟩ => by
    simp only [wpEs] at w
    exact ⟨Γ, Z, Os, _, ok, w, fun t Γ1 v H1 Z1 Os1 o1 q1 r1 => ⟨Γ1, Z1, Os1, _, r1.ok, q1, fun ts Γ2 vs H2 Z2 Os2 o2 q2 r2 l le _ => k _ _ _ _ _ _ _ q2 (r1.cons r2) l (by simp [maskOf, le]) (ok.len r2.ok)⟩⟩
theorem vk_lend {nm : Option Str} {kp : Pos} {i : Nat} {e : Expr} {kws : List Keyword} {Es : Es} (h : PE X e (tVar i)) (hs : PK X kws (tL X.K Es (wpEs Φ Es))) : PK X (⟨nm, e, kp⟩ :: kws) (tL X.K (.lend i Es) (wpEs Φ (.lend i Es))) :=
  (pk_cons h hs).imp fun σ H Q ⟨Γ, Z, Os, Qt, ok, w, k⟩ => by
    simp only [wpEs] at w
    obtain ⟨⟨t0, h0⟩, w⟩ := w
    obtain ⟨v, h4, _⟩ := ok.get i t0 h0
    exact ⟨v, h4, Γ, Z, Os, _, ok, w, fun ts Γ2 vs H2 Z2 Os2 o2 ⟨t, e, q⟩ r2 l le _ => k _ _ _ _ _ _ _ q (r2.lend e h4) ⟨⟨v, rfl, h4⟩, l⟩ (by simp [maskOf, le]) (by rw [List.length_set]; exact ok.len r2.ok)⟩
theorem kw_names {env : PySem.Env} {pos : Pos} : ∀ {kws : List Keyword} {ns : List Str}, kws.map (·.arg) = ns.map some → (backToKw pos (keywordEach kws env)).all (·.1.isSome) = true ∧ (backToKw pos (keywordEach kws env)).filterMap (·.1) = ns ∧ (backToKw pos (keywordEach kws env)).any (·.1.isNone) = false
  | [], [], _ => ⟨rfl, rfl, rfl⟩
  | [], _ :: _, h => by simp at h
  | _ :: _, [], h => by simp at h
  | ⟨a, e, kp⟩ :: kws, n :: ns, h => by
    simp only [List.map_cons, List.cons.injEq] at h
    obtain ⟨rfl, h⟩ := h
    obtain ⟨h1, h2, h3⟩ := kw_names (env := env) (pos := pos) h
    refine ⟨?_, ?_, ?_⟩
    · show ((some n).isSome && (backToKw pos (keywordEach kws env)).all (·.1.isSome)) = true
      rw [h1]; rfl
    · show n :: (backToKw pos (keywordEach kws env)).filterMap (·.1) = n :: ns
      rw [h2]
    · show ((some n).isNone || (backToKw pos (keywordEach kws env)).any (·.1.isNone)) = false
      rw [h3]; rfl
theorem ve_callK {f : Nat} {x : Str} {m : Sg} {kws : List Keyword} {Es : Es} {p pos : Pos} (F : FnAt X x m (Φ f)) (hmk : m.1 = maskOf Es) (hne : kws ≠ []) (hns : kws.map (·.arg) = m.2.map some) (hg : Gl X x) (hdb : (x == ("__debug__" : Str)) = false) (ha : PK X kws (tL X.K Es (wpEs Φ Es))) :
    PE X (.Call (.Name x p) [] kws pos) (tV X.K (wpE Φ (.call f Es))) := by
  obtain ⟨k, fa, fd, ps, F, hr, hm, hk, hb, hkw⟩ := F.ex
  rw [hmk] at F
  rcases hkw with e | ⟨e, kb, hl⟩
  · rw [e] at hns
    cases kws with
    | nil => exact absurd rfl hne
    | cons _ _ => simp at hns
  · obtain ⟨h1, h2, h3⟩ := kw_names (env := X.env) (pos := pos) hns
    refine ⟨fun pins s σ H Q I h => ?_⟩
    refine wpAny_Call_Name_kw (ld_glob I hg hm ?_ hdb)
    refine PySem.W.callWith_KW0 (h₀ := X.base) I.ok.mod.kin hk h1 (thn (ha.run pos pins s σ H _ I (call_imp E0 σ H Q h)) fun ws s2 ⟨zs, H2, I2, rz, q⟩ => ⟨I2.kIn, ?_⟩) (by rw [h3]; rfl)
    rw [h2, e]
    have lz : zs.length = ps.length := by rw [q.1, ← hmk]; exact hl
    exact run_fnN (ks := ps) (n := 0) (g := fun us ws => ws) (gV := fun vs zs => zs) F hr ⟨fun s us ws X l1 l2 => by
      obtain rfl := List.length_eq_zero_iff.mp l1
      exact kb s ws X l2, fun _ r => r⟩ pass0 I2 .nil rz rfl lz q
end
end PL

end
section
set_option maxHeartbeats 4000000
/-! PLk: targets; what a loop goes through; list comprehensions. -/
namespace PL
open PySem PySem.Spec L2
open PyProof.Rows hiding St

/-! ### targets -/
mutual
def gN : G → List Nat
  | .nm i => [i]
  | .tp gs => gNs gs
def gNs : List G → List Nat
  | [] => []
  | g :: gs => gN g ++ gNs gs
end
/-- only these slots of the frame changed -/
def Keep (is : List Nat) (σ σ2 : L2.St) : Prop := ∀ i, i ∉ is → σ2[i]? = σ[i]?
theorem Keep.refl {is : List Nat} {σ : L2.St} : Keep is σ σ := fun _ _ => rfl
theorem Keep.trans {is js : List Nat} {σ σ1 σ2 : L2.St} (h : Keep is σ σ1) (k : Keep js σ1 σ2) : Keep (is ++ js) σ σ2 := fun i n =>
  (k i fun m => n (List.mem_append_right _ m)).trans (h i fun m => n (List.mem_append_left _ m))
def tGT (K : PySem.W.Frag) (g : G) : TG := fun v σ H Q => ∃ Γ Z Os t os Γ2, Ok K H Z Γ Os σ ∧ Rep K H Z t os v ∧ Own H Z (os ++ Os.flatten) ∧ bindG g t Γ = some Γ2 ∧
  ∀ σ2 Os2, Ok K H Z Γ2 Os2 σ2 → (∀ a ∈ Os2.flatten, a ∈ os ++ Os.flatten) → Keep (gN g) σ σ2 → Q σ2 H
def tGTs (K : PySem.W.Frag) (gs : List G) : TGs := fun vs σ H Q => ∃ Γ Z Os ts os Γ2, Ok K H Z Γ Os σ ∧ Reps K H Z ts os vs ∧ Own H Z (os ++ Os.flatten) ∧ bindGs gs ts Γ = some Γ2 ∧
  ∀ σ2 Os2, Ok K H Z Γ2 Os2 σ2 → (∀ a ∈ Os2.flatten, a ∈ os ++ Os.flatten) → Keep (gNs gs) σ σ2 → Q σ2 H
theorem _root_.L2.PG.imp {X : Cx} {e : Expr} {t t' : TG} (h : PG X e t) (i : ∀ v σ H Q, t' v σ H Q → t v σ H Q) : PG X e t' := ⟨fun pins s σ H v u Q I r q => h.run pins s σ H v u Q I r (i _ _ _ _ q)⟩
theorem _root_.L2.PGs.imp {X : Cx} {e : List Expr} {t t' : TGs} (h : PGs X e t) (i : ∀ v σ H Q, t' v σ H Q → t v σ H Q) : PGs X e t' := ⟨fun pins s σ H v u Q I r q => h.run pins s σ H v u Q I r (i _ _ _ _ q)⟩
theorem assign_len : ∀ (es : List Expr) (env : PySem.Env), (assignEach es env).length = es.length
  | [], _ => rfl
  | e :: es, env => by
    have := assign_len es env
    cases e <;> simp [assignEach, this]
theorem assign_cons {e : Expr} {es : List Expr} {env : PySem.Env} (h : notStar e = true) : assignEach (e :: es) env = (false, assign e env) :: assignEach es env := by
  cases e <;> first | rfl | cases h
theorem assign_find : ∀ (es : List Expr) (env : PySem.Env), es.all notStar = true → (assignEach es env).findIdx? (·.1) = none
  | [], _, _ => rfl
  | e :: es, env, h => by
    simp only [List.all_cons, Bool.and_eq_true] at h
    rw [assign_cons h.1, List.findIdx?_cons]
    simp [assign_find es env h.2]
section
variable {X : Cx}
theorem vg_nm {i : Nat} {x : Str} {pos : Pos} (hN : X.N.Nodup) (hi : X.N[i]? = some x) (hx : Loc X.env.scope x) (hf : X.fn x = true ∨ X.env.scope.names.lookup x = some .local) : PG X (.Name x pos) (tGT X.K (.nm i)) :=
  (pg_name hN hi hx hf).imp fun v σ H Q ⟨Γ, Z, Os, t, os, Γ2, ok, r, o, b, k⟩ => by
    simp only [bindG] at b
    split at b
    · rename_i hl
      cases b
      refine k _ _ (ok.put hl r o) (Ok.put_sub (by rw [ok.lo]; exact hl)) fun j n => ?_
      simp only [gN, List.mem_singleton] at n
      exact List.getElem?_set_ne (Ne.symm n)
    · cases b
theorem vgs_nil : PGs X [] (tGTs X.K []) := pgs_nil.imp fun vs σ H Q ⟨Γ, Z, Os, ts, os, Γ2, ok, r, o, b, k⟩ => by
  cases ts with
  | cons t ts => simp [bindGs] at b
  | nil =>
    simp only [bindGs] at b
    cases b
    simp only [Reps] at r
    exact ⟨r.2, k _ _ ok (fun a m => List.mem_append_right _ m) Keep.refl⟩
theorem vgs_cons {e : Expr} {es : List Expr} {g : G} {gs : List G} (h1 : PG X e (tGT X.K g)) (h2 : PGs X es (tGTs X.K gs)) (hs : notStar e = true) : PGs X (e :: es) (tGTs X.K (g :: gs)) :=
  (pgs_cons h1 h2 (by rw [assign_cons hs]; rfl)).imp fun vs σ H Q ⟨Γ, Z, Os, ts, os, Γ2, ok, r, o, b, k⟩ => by
    cases ts with
    | nil => simp [bindGs] at b
    | cons t ts =>
      simp only [bindGs] at b
      obtain ⟨Γ1, b1, b2⟩ := Option.bind_eq_some_iff.mp b
      simp only [Reps] at r
      obtain ⟨o1, o2, v, vs', rfl, rfl, r1, r2⟩ := r
      have oA : Own H Z (o2 ++ (o1 ++ Os.flatten)) := o.perm (by
        rw [← List.append_assoc]
        exact List.perm_append_comm.append_right _)
      refine ⟨v, vs', rfl, Γ, Z, Os, t, o1, Γ1, ok, r1, oA.right, b1, fun σ1 Os1 ok1 sub1 kp1 => ?_⟩
      have oB : Own H Z (o2 ++ Os1.flatten) := by
        refine ⟨List.nodup_append.mpr ⟨oA.left.nd, ok1.own.nd, fun a h b m e => ?_⟩, fun a h => ?_, fun a h => ?_⟩
        · subst e; exact oA.apart h (sub1 a m)
        · rcases List.mem_append.mp h with h | h
          · exact oA.left.nz a h
          · exact ok1.own.nz a h
        · rcases List.mem_append.mp h with h | h
          · exact oA.left.tr a h
          · exact ok1.own.tr a h
      refine ⟨Γ1, Z, Os1, ts, o2, Γ2, ok1, r2, oB, b2, fun σ2 Os2 ok2 sub2 kp2 => k σ2 Os2 ok2 (fun a m => ?_) (by simpa only [gNs] using kp1.trans kp2)⟩
      rcases List.mem_append.mp (sub2 a m) with q | q
      · exact List.mem_append_left _ (List.mem_append_right _ q)
      · rcases List.mem_append.mp (sub1 a q) with z | z
        · exact List.mem_append_left _ (List.mem_append_left _ z)
        · exact List.mem_append_right _ z
theorem vg_tp {es : List Expr} {gs : List G} {n : Nat} {pos : Pos} (hc : X.calm = true) (h : PGs X es (tGTs X.K gs)) (hl : es.length = gs.length) (hs : es.all notStar = true) : PG X (.Tuple es n pos) (tGT X.K (.tp gs)) :=
  (pg_tup (n := gs.length) hc h (by rw [assign_len, hl]) (assign_find es X.env hs)).imp fun v σ H Q ⟨Γ, Z, Os, t, os, Γ2, ok, r, o, b, k⟩ => by
    cases t with
    | tup xs =>
      simp only [bindG] at b
      obtain ⟨a, vs, rfl, f, rs⟩ := r.tup_inv
      have len : ∀ (gs : List G) (xs : List T) (Γ : Env), bindGs gs xs Γ = some Γ2 → xs.length = gs.length := by
        intro gs
        induction gs with
        | nil =>
          intro xs Γ h
          cases xs with
          | nil => rfl
          | cons x xs => simp [bindGs] at h
        | cons g gs ih =>
          intro xs Γ h
          cases xs with
          | nil => simp [bindGs] at h
          | cons x xs =>
            simp only [bindGs] at h
            obtain ⟨Γ1, b1, b2⟩ := Option.bind_eq_some_iff.mp h
            simp [ih xs Γ1 b2]
      exact ⟨a, vs, rfl, f.sq, by rw [← rs.length]; exact len gs xs Γ b, Γ, Z, Os, xs, os, Γ2, ok, rs, o, b, by simpa only [gN] using k⟩
    | _ => simp [bindG] at b
end

/-! ### what a loop goes through -/
/-- what was frozen stands -/
def Keeps (H0 : Hp) (Z0 : Addr → Prop) (H : Hp) : Prop := ∀ a o, Z0 a → H0 a = some o → H a = some o
structure Itok (K : PySem.W.Frag) (J : It) (xs : List T) (H0 : Hp) (Z0 : Addr → Prop) : Prop where
  goes : ∀ i H, i < xs.length → Keeps H0 Z0 H → J.go i H
  stops : ∀ H, Keeps H0 Z0 H → J.stop xs.length H
  yld : ∀ i H (Z : Addr → Prop) x H', Keeps H0 Z0 H → (∀ a, Z0 a → Z a) → Zt H Z → i < xs.length → J.yld i H x H' → ∃ t Z', xs[i]? = some t ∧ isF t = true ∧ Nw K H Z t x H' Z' []
abbrev MI := Env → (List T → Env → Prop) → Prop
def tI (K : PySem.W.Frag) (it : I) (w : MI) : TI := fun σ H R => ∃ Γ Z Os Qt, Ok K H Z Γ Os σ ∧ w Γ Qt ∧
  ∀ xs Γ' H' Z' Os' J, Qt xs Γ' → Ok K H' Z' Γ' Os' σ → Ext Os.flatten H Z H' Z' Os'.flatten → Itok K J xs H' Z' → (lcCap it xs → xs.length ≤ sizeLine) → R J H'
theorem _root_.L2.PI.imp {X : Cx} {tg e : Expr} {t t' : TI} (h : PI X tg e t) (i : ∀ σ H Q, t' σ H Q → t σ H Q) : PI X tg e t' := ⟨fun pins s σ H Q I q => h.run pins s σ H Q I (i _ _ _ q)⟩
/-- a sequence that is frozen -/
def FzSeq (K : PySem.W.Frag) (H : Hp) (Z : Addr → Prop) (v : V) (xs : List T) : Prop := ∃ a vs, v = .ref a ∧ Reps K H Z xs [] vs ∧ (FzL H Z a vs ∨ FzT H Z a vs)
theorem FzSeq.keep {K : PySem.W.Frag} {H H' : Hp} {Z Z' : Addr → Prop} {v : V} {xs : List T} (h : FzSeq K H Z v xs) (hz : ∀ a, Z a → Z' a) (hs : ∀ a u, Z a → H a = some u → H' a = some u) : FzSeq K H' Z' v xs := by
  obtain ⟨a, vs, e, r, f⟩ := h
  refine ⟨a, vs, e, r.keep hz hs xs fun b m => absurd m (by simp), ?_⟩
  rcases f with f | f
  · exact .inl (f.keep hz hs)
  · exact .inr (f.keep hz hs)
/-- a sequence that is to be gone through: frozen from now on -/
def tH (K : PySem.W.Frag) (w : MI) : TE := fun σ H Q => ∃ Γ Z Os Qt, Ok K H Z Γ Os σ ∧ w Γ Qt ∧
  ∀ xs Γ' v H' Z' Os', Qt xs Γ' → Ok K H' Z' Γ' Os' σ → Ext Os.flatten H Z H' Z' Os'.flatten → FzSeq K H' Z' v xs → isFs xs = true → xs.length ≤ sizeLine → Q v H'
section
variable {K : PySem.W.Frag} {H H' : Hp} {Z Z' : Addr → Prop} {Γ : Env} {Os : List (List Addr)} {σ : L2.St}
/-- a value with no owner but the outermost list's, frozen -/
theorem seq_fz {x : T} {xs : List T} {os : List Addr} {v : V} (r : Rep K H Z x os v) (h : items x = some xs) (f : isFs xs = true) : FzSeq K H (fun a => Z a ∨ a ∈ os) v xs := by
  cases x with
  | tup ts =>
    have e : ts = xs := by simpa [items] using h
    subst e
    obtain ⟨a, vs, rfl, g, rs⟩ := r.tup_f f
    exact ⟨a, vs, rfl, rs.keep (fun a z => .inl z) (fun _ _ _ q => q) ts fun _ m => absurd m (by simp), .inr (g.keep (fun a z => .inl z) fun _ _ _ q => q)⟩
  | lst o ts =>
    have e : ts = xs := by simpa [items] using h
    subst e
    cases o with
    | true =>
      simp only [Rep] at r
      obtain ⟨a, vs, rfl, os', rfl, g, rs⟩ := r
      have := rs.nil ts f
      subst this
      exact ⟨a, vs, rfl, rs.keep (fun a z => .inl z) (fun _ _ _ q => q) ts fun _ m => absurd m (by simp), .inl ⟨.inr (by simp), .inl g⟩⟩
    | false =>
      simp only [Rep] at r
      obtain ⟨a, vs, rfl, _, g, rs⟩ := r
      exact ⟨a, vs, rfl, rs.keep (fun a z => .inl z) (fun _ _ _ q => q) ts fun _ m => absurd m (by simp), .inl (g.keep (fun a z => .inl z) fun _ _ _ q => q)⟩
  | _ => cases h
theorem sfz_fz {x : T} {xs : List T} (h : items x = some xs) (f : isFs xs = true) : sfz x = fz x := by
  cases x with
  | tup ts => cases h; simp [sfz, fz, fzs_of_isF _ f]
  | lst o ts => cases h; simp [sfz, fz, fzs_of_isF _ f]
  | _ => cases h
/-- a slot frozen -/
theorem Ok.frzAt {i : Nat} {t : T} (ok : Ok K H Z Γ Os σ) (hi : Γ[i]? = some (some t)) : Ok K H (fun a => Z a ∨ a ∈ Os.getD i []) (Γ.set i (some (fz t))) (Os.set i []) σ := by
  obtain ⟨v, hv, r⟩ := ok.get i t hi
  have ok1 := (ok.drop i).frz (ok.out i)
  have r1 := r.fz (Z' := fun a => Z a ∨ a ∈ Os.getD i []) (fun a z => .inl z) t fun a m => .inr m
  have il := ok.lt hi
  have := ok1.back (i := i) (by rw [List.length_set]; exact il) hv r1 (by simpa using ok1.own)
  rw [List.set_set, List.set_set] at this
  exact this
theorem Ext.frzAt {i : Nat} {os0 : List Addr} {H0 : Hp} {Z0 : Addr → Prop} (e : Ext os0 H0 Z0 H Z Os.flatten) : Ext os0 H0 Z0 H (fun a => Z a ∨ a ∈ Os.getD i []) (Os.set i []).flatten := by
  refine ⟨e.same, fun a z => .inl (e.zz a z), fun a z => ?_, fun a m => e.fr a (flatten_drop.subset m)⟩
  rcases z with z | z
  · exact e.zn a z
  · exact .inr (e.fr a (getD_mem z))
end
section
variable {X : Cx} {Φ : Nat → Spec}
/-- what the state tells of a value: its sequence isn't too long -/
theorem _root_.L2.PE.know {e : Expr} {t : TE} (h : PE X e t) : PE X e (fun σ H Q => t σ H fun v H' => (∀ a vs, v = .ref a → SqL X.K H' a vs ∨ SqT X.K H' a vs → vs.length ≤ sizeLine) → Q v H') := by
  refine ⟨fun pins s σ H Q I q => ?_⟩
  refine thn (h.run pins s σ H _ I q) fun v s1 ⟨x, H1, I1, r1, q1⟩ => ⟨x, H1, I1, r1, q1 fun a vs e hq => ?_⟩
  rcases hq with hq | hq
  · obtain ⟨_, _, _, z⟩ := I1.list hq; exact z
  · obtain ⟨_, _, _, z⟩ := I1.tuple hq; exact z
theorem FzSeq.cap {H : Hp} {Z : Addr → Prop} {v : V} {xs : List T} (h : FzSeq X.K H Z v xs) (k : ∀ a vs, v = .ref a → SqL X.K H a vs ∨ SqT X.K H a vs → vs.length ≤ sizeLine) : xs.length ≤ sizeLine := by
  obtain ⟨a, vs, e, r, f⟩ := h
  rw [r.length]
  refine k a vs e ?_
  rcases f with f | f
  · exact .inl f.sq
  · exact .inr f.sq
theorem vh_seq {e : Expr} {A : P} (h : PE X e (tP X.K A (wpP Φ A))) : PE X e (tH X.K fun Γ R => wpP Φ A Γ fun x Γ1 => hold A x Γ1 R) := h.know.imp fun σ H Q ⟨Γ, Z, Os, Qt, ok, w, k⟩ => by
  refine ⟨Γ, Z, Os, _, ok, w, fun x Γ1 v H1 Z1 Os1 o1 q1 r1 kn => ?_⟩
  obtain ⟨xs, h1, h2, q⟩ := q1
  cases A with
  | tmp e =>
    have r1 : Res X.K Os.flatten H Z σ x Γ1 v H1 Z1 Os1 o1 := r1
    have r2 := r1.frz
    have fs := seq_fz r1.rep h1 h2
    exact k xs Γ1 v H1 _ Os1 q r2.ok r2.exto fs h2 (fs.cap kn)
  | var i =>
    obtain ⟨_, ok1, e1, e2, e3⟩ := r1
    obtain ⟨v', e4, e5⟩ := ok1.get i x e2
    rw [e1] at e4
    cases e4
    have fs := seq_fz e5 h1 h2
    have ok2 := ok1.frzAt e2
    rw [← sfz_fz h1 h2] at ok2
    exact k xs _ v H1 _ _ q ok2 e3.frzAt fs h2 (fs.cap kn)
theorem isFs_map {α : Type} {f : α → T} {xs : List α} (h : ∀ x, isF (f x) = true) : isFs (xs.map f) = true := by
  rw [isFs_all]
  simp [h]
theorem isFs_get {xs : List T} (h : isFs xs = true) {i : Nat} {t : T} (e : xs[i]? = some t) : isF t = true := isFs_mem h (List.mem_of_getElem? e)
/-- a frozen sequence gone through -/
theorem itok_list {K : PySem.W.Frag} {H0 : Hp} {Z0 : Addr → Prop} {a : Addr} {vs : List V} {xs : List T} (r : Reps K H0 Z0 xs [] vs) (f : FzL H0 Z0 a vs) (fs : isFs xs = true) : Itok K (Itl K a) xs H0 Z0 := by
  have sq : ∀ H, Keeps H0 Z0 H → SqL K H a vs := fun H k => .inl (Rd.keep f.2 fun o q => k a o f.1 q)
  have W := walk_list (K := K) (a := a) (xs := vs)
  refine ⟨fun i H hi k => W.goes i H (by rw [← r.length]; exact hi) (sq H k), fun H k => by rw [r.length]; exact W.stops H (sq H k), fun i H Z x H' k hz zt hi y => ?_⟩
  obtain ⟨rfl, e⟩ := W.yields i H x H' (by rw [← r.length]; exact hi) (sq H k) y
  have e2 : xs[i]? = some xs[i] := by simp [hi]
  obtain ⟨v, h1, h2⟩ := r.nilOs e2
  rw [e] at h1
  cases h1
  exact ⟨xs[i], Z, e2, isFs_get fs e2, Nw.scalar (h2.keep hz (fun a u z q => k a u z q) _ fun b m => absurd m (by simp)) zt⟩
theorem itok_tup {K : PySem.W.Frag} {H0 : Hp} {Z0 : Addr → Prop} {a : Addr} {vs : List V} {xs : List T} (r : Reps K H0 Z0 xs [] vs) (f : FzT H0 Z0 a vs) (fs : isFs xs = true) : Itok K (Itt K a) xs H0 Z0 := by
  have sq : ∀ H, Keeps H0 Z0 H → SqT K H a vs := fun H k => .inl (.inl (k a _ f.1 f.2))
  have W := walk_tup (K := K) (a := a) (xs := vs)
  refine ⟨fun i H hi k => W.goes i H (by rw [← r.length]; exact hi) (sq H k), fun H k => by rw [r.length]; exact W.stops H (sq H k), fun i H Z x H' k hz zt hi y => ?_⟩
  obtain ⟨rfl, e⟩ := W.yields i H x H' (by rw [← r.length]; exact hi) (sq H k) y
  have e2 : xs[i]? = some xs[i] := by simp [hi]
  obtain ⟨v, h1, h2⟩ := r.nilOs e2
  rw [e] at h1
  cases h1
  exact ⟨xs[i], Z, e2, isFs_get fs e2, Nw.scalar (h2.keep hz (fun a u z q => k a u z q) _ fun b m => absurd m (by simp)) zt⟩
/-- lists and tuples -/
theorem pi_either {tg e : Expr} {te : TE} (h : PE X e te) : PI X tg e (fun σ H R => te σ H fun x H1 => ∃ a xs, x = .ref a ∧ ((SqL X.K H1 a xs ∧ R (Itl X.K a) H1) ∨ (SqT X.K H1 a xs ∧ R (Itt X.K a) H1))) := by
  refine ⟨fun pins s σ H R I q => ?_⟩
  refine thn (h.run pins s σ H _ I q) fun v s1 ⟨x, H1, I1, r1, q1⟩ => ?_
  obtain ⟨a, xs, rfl, q1⟩ := q1
  cases r1
  have fin : ∀ b ∈ [s1.heap.objs.size], FpOk X pins H1 b := fun b hb => by
    have e : b = s1.heap.objs.size := by simpa using hb
    subst e
    exact I1.fpOk (Nat.le_refl _) (I1.hok.fresh (Nat.le_refl _))
  rcases q1 with ⟨hq, q1⟩ | ⟨hq, q1⟩
  · obtain ⟨its, rv, p, hz⟩ := I1.list hq
    refine wpAny_pyIter_list p.isList ?_
    exact ⟨s1.heap.objs.size, [s1.heap.objs.size], _, _, H1, rfl, I1.kept (t' := s1.toks) fun b o e => Heap.get?_push_of_some _ e, turn_list a _, ⟨_, Heap.get?_push_size _ rfl, rfl, rfl⟩, fin, q1⟩
  · obtain ⟨its, rv, p, hz⟩ := I1.tuple hq
    refine wpAny_pyIter_tuple (show s1.heap.IsTuple a its.toArray from p) ?_
    exact ⟨s1.heap.objs.size, [s1.heap.objs.size], _, _, H1, rfl, I1.kept (t' := s1.toks) fun b o e => Heap.get?_push_of_some _ e, turn_tuple a _, ⟨_, Heap.get?_push_size _ rfl, rfl, rfl⟩, fin, q1⟩
theorem vi_seq {tg e : Expr} {A : P} (h : PE X e (tP X.K A (wpP Φ A))) : PI X tg e (tI X.K (.seq A) (wpI Φ (.seq A))) := (pi_either (vh_seq h)).imp fun σ H R ⟨Γ, Z, Os, Qt, ok, w, k⟩ => by
  simp only [wpI] at w
  refine ⟨Γ, Z, Os, Qt, ok, w, fun xs Γ' v H' Z' Os' q ok' e' f fs cap => ?_⟩
  obtain ⟨a, vs, rfl, r, f⟩ := f
  rcases f with f | f
  · exact ⟨a, vs, rfl, .inl ⟨f.sq, k xs Γ' H' Z' Os' _ q ok' e' (itok_list r f fs) fun _ => cap⟩⟩
  · exact ⟨a, vs, rfl, .inr ⟨f.sq, k xs Γ' H' Z' Os' _ q ok' e' (itok_tup r f fs) fun _ => cap⟩⟩
/-- range -/
theorem itok_rng {K : PySem.W.Frag} {H0 : Hp} {Z0 : Addr → Prop} {lo : Int} {n : Nat} {xs : List T} (hx : xs = (List.range n).map fun (k : Nat) => T.int (lo + k)) : Itok K (Itr lo n) xs H0 Z0 := by
  have hl : xs.length = n := by rw [hx]; simp
  refine ⟨fun i H hi k => by rw [hl] at hi; exact hi, fun H k => by rw [hl]; exact Nat.le_refl _, fun i H Z x H' k hz zt hi y => ?_⟩
  obtain ⟨rfl, rfl⟩ := y
  rw [hl] at hi
  exact ⟨.int (lo + i), Z, by rw [hx, List.getElem?_map, List.getElem?_range hi]; rfl, rfl, Nw.scalar rep_int zt⟩
theorem vi_rng1 {tg a : Expr} {A : E} {p pos : Pos} (hg : Gl X "range") (hm : X.mg "range" = none) (ha : PE X a (tV X.K (wpE Φ A))) (hs : notStar a = true) : PI X tg (.Call (.Name "range" p) [a] [] pos) (tI X.K (.rng1 A) (wpI Φ (.rng1 A))) :=
  (pi_range1 hg hm (pa_cons ha pa_nil (star_cons hs)) (star_one hs)).imp fun σ H R ⟨Γ, Z, Os, Qt, ok, w, k⟩ => by
    simp only [wpI] at w
    refine ⟨Γ, Z, Os, _, ok, w, fun t Γ1 v H1 Z1 Os1 o1 q1 r1 => ?_⟩
    obtain ⟨n, rfl, b1, b2, q⟩ := q1
    refine ⟨n, by rw [r1.rep.int_inv], b1, b2, k _ _ _ _ _ _ q r1.ok r1.exto (itok_rng (lo := 0) (by simp)) fun c => c⟩
theorem vi_rng2 {tg a b : Expr} {A B : E} {p pos : Pos} (hg : Gl X "range") (hm : X.mg "range" = none) (ha : PE X a (tV X.K (wpE Φ A))) (hb : PE X b (tV X.K (wpE Φ B))) (hs : notStar a = true ∧ notStar b = true) : PI X tg (.Call (.Name "range" p) [a, b] [] pos) (tI X.K (.rng2 A B) (wpI Φ (.rng2 A B))) :=
  (pi_range2 hg hm (pa_cons ha (pa_cons hb pa_nil (star_cons hs.2)) (star_cons hs.1)) (by rw [star_cons hs.1, star_one hs.2]) (star_one hs.2)).imp fun σ H R ⟨Γ, Z, Os, Qt, ok, w, k⟩ => by
    simp only [wpI] at w
    refine ⟨Γ, Z, Os, _, ok, w, fun t Γ1 v H1 Z1 Os1 o1 q1 r1 => ⟨Γ1, Z1, Os1, _, r1.ok, q1, fun t2 Γ2 v2 H2 Z2 Os2 o2 q2 r2 => ?_⟩⟩
    obtain ⟨m, n, rfl, rfl, b, q⟩ := q2
    exact ⟨m, n, by rw [r1.rep.int_inv, r2.rep.int_inv], b, k _ _ _ _ _ _ q r2.ok (r1.exto.trans r2.exto) (itok_rng rfl) fun c => c⟩
end
end PL

end
section
set_option maxHeartbeats 4000000
/-! PLl: list comprehensions. -/
namespace PL
open PySem PySem.Spec L2
open PyProof.Rows hiding St

def wipeO : List Nat → List (List Addr) → List (List Addr)
  | [], Os => Os
  | v :: vs, Os => (wipeO vs Os).set v []
theorem wipeE_out {own : List Nat} {Γ : Env} {i : Nat} (h : i ∉ own) : (wipeE own Γ)[i]? = Γ[i]? := by
  induction own with
  | nil => rfl
  | cons v vs ih =>
    simp only [List.mem_cons, not_or] at h
    unfold wipeE
    rw [List.getElem?_set_ne (Ne.symm h.1), ih h.2]
theorem wipeE_in {own : List Nat} {Γ : Env} {i : Nat} (h : i ∈ own) (t : T) : (wipeE own Γ)[i]? ≠ some (some t) := by
  induction own with
  | nil => cases h
  | cons v vs ih =>
    unfold wipeE
    intro e
    by_cases hv : v = i
    · subst hv
      by_cases hl : v < (wipeE vs Γ).length
      · rw [List.getElem?_set_self hl] at e; cases e
      · rw [List.getElem?_eq_none (by simpa using hl)] at e; cases e
    · rw [List.getElem?_set_ne hv] at e
      rcases List.mem_cons.mp h with z | z
      · exact hv z.symm
      · exact ih z e
theorem wipeE_len (own : List Nat) (Γ : Env) : (wipeE own Γ).length = Γ.length := by
  induction own with
  | nil => rfl
  | cons v vs ih => unfold wipeE; rw [List.length_set, ih]
theorem wipeO_out {own : List Nat} {Os : List (List Addr)} {i : Nat} (h : i ∉ own) : (wipeO own Os).getD i [] = Os.getD i [] := by
  induction own with
  | nil => rfl
  | cons v vs ih =>
    simp only [List.mem_cons, not_or] at h
    unfold wipeO
    rw [getD_set_ne (Ne.symm h.1), ih h.2]
theorem wipeO_in {own : List Nat} {Os : List (List Addr)} {i : Nat} (h : i ∈ own) : (wipeO own Os).getD i [] = [] := by
  induction own with
  | nil => cases h
  | cons v vs ih =>
    unfold wipeO
    by_cases hv : v = i
    · subst hv
      by_cases hl : v < (wipeO vs Os).length
      · rw [getD_set_self hl]
      · rw [List.getD_eq_getElem?_getD, List.getElem?_eq_none (by simpa using hl)]; rfl
    · rw [getD_set_ne hv]
      rcases List.mem_cons.mp h with z | z
      · exact absurd z.symm hv
      · exact ih z
theorem wipeO_len (own : List Nat) (Os : List (List Addr)) : (wipeO own Os).length = Os.length := by
  induction own with
  | nil => rfl
  | cons v vs ih => unfold wipeO; rw [List.length_set, ih]
theorem wipeO_sub (own : List Nat) (Os : List (List Addr)) : (wipeO own Os).flatten.Sublist Os.flatten := by
  induction own with
  | nil => exact List.Sublist.refl _
  | cons v vs ih => unfold wipeO; exact flatten_drop.trans ih
theorem wipe_out {own : List Nat} {σ : L2.St} {i : Nat} (h : i ∉ own) : (wipe σ own)[i]? = σ[i]? := by
  induction own with
  | nil => rfl
  | cons v vs ih =>
    simp only [List.mem_cons, not_or] at h
    unfold wipe
    rw [List.getElem?_set_ne (Ne.symm h.1), ih h.2]
theorem wipe_in {own : List Nat} {σ : L2.St} {i : Nat} (h : i ∈ own) : (wipe σ own)[i]? = if i < σ.length then some none else none := by
  induction own with
  | nil => cases h
  | cons v vs ih =>
    unfold wipe
    by_cases hv : v = i
    · subst hv
      split
      · rename_i hl
        rw [List.getElem?_set_self (by rw [wipe_length]; exact hl)]
      · rename_i hl
        rw [List.getElem?_eq_none (by rw [List.length_set, wipe_length]; omega)]
    · rw [List.getElem?_set_ne hv]
      rcases List.mem_cons.mp h with z | z
      · exact absurd z.symm hv
      · exact ih z
theorem wipe_eq {own : List Nat} {σ σ2 : L2.St} (hl : σ2.length = σ.length) (h : ∀ i, i ∉ own → σ2[i]? = σ[i]?) : wipe σ2 own = wipe σ own := by
  apply List.ext_getElem?
  intro i
  by_cases m : i ∈ own
  · rw [wipe_in m, wipe_in m, hl]
  · rw [wipe_out m, wipe_out m, h i m]
theorem backE_out {own : List Nat} {Γ0 Γ : Env} {i : Nat} (h : i ∉ own) : (backE own Γ0 Γ)[i]? = Γ[i]? := by
  induction own with
  | nil => rfl
  | cons v vs ih =>
    simp only [List.mem_cons, not_or] at h
    unfold backE
    rw [List.getElem?_set_ne (Ne.symm h.1), ih h.2]
theorem backE_len (own : List Nat) (Γ0 Γ : Env) : (backE own Γ0 Γ).length = Γ.length := by
  induction own with
  | nil => rfl
  | cons v vs ih => unfold backE; rw [List.length_set, ih]
theorem backE_in {own : List Nat} {Γ0 Γ : Env} {i : Nat} (h : i ∈ own) {t : T} (e : (backE own Γ0 Γ)[i]? = some (some t)) : Γ0[i]? = some (some t) ∧ isF t = true := by
  induction own with
  | nil => cases h
  | cons v vs ih =>
    unfold backE at e
    by_cases hv : v = i
    · subst hv
      by_cases hl : v < (backE vs Γ0 Γ).length
      · rw [List.getElem?_set_self hl] at e
        have e := Option.some.inj e
        rw [List.getD_eq_getElem?_getD] at e
        cases q : Γ0[v]? with
        | none => rw [q] at e; simp [keepF] at e
        | some o =>
          rw [q] at e
          cases o with
          | none => simp [keepF] at e
          | some t' =>
            simp only [Option.getD_some, keepF] at e
            split at e
            · cases e; exact ⟨rfl, by assumption⟩
            · cases e
      · rw [List.getElem?_eq_none (by simpa using hl)] at e; cases e
    · rw [List.getElem?_set_ne hv] at e
      rcases List.mem_cons.mp h with z | z
      · exact absurd z.symm hv
      · exact ih z e
section
variable {K : PySem.W.Frag} {H H' : Hp} {Z Z' : Addr → Prop} {Γ : Env} {Os : List (List Addr)} {σ : L2.St}
theorem Ok.wipe (ok : Ok K H Z Γ Os σ) (own : List Nat) {σ2 : L2.St} (hl : σ2.length = σ.length) (h : ∀ i, i ∉ own → σ2[i]? = σ[i]?) : Ok K H Z (wipeE own Γ) (wipeO own Os) σ2 := by
  refine ⟨by rw [hl, wipeE_len]; exact ok.ls, by rw [wipeO_len, wipeE_len]; exact ok.lo, fun i t e => ?_, ok.own.sublist (wipeO_sub own Os), ok.zt⟩
  by_cases m : i ∈ own
  · exact absurd e (wipeE_in m t)
  · rw [wipeE_out m] at e
    obtain ⟨v, h1, h2⟩ := ok.get i t e
    exact ⟨v, by rw [h i m]; exact h1, by rw [wipeO_out m]; exact h2⟩
/-- an owned thing beside the slots changes -/
theorem Ok.side {D : Addr} {u : HO} {os : List Addr} (ok : Ok K H Z Γ Os σ) (own : Own H Z (D :: Os.flatten)) : Ok K (upd H D u) Z Γ Os σ ∧ Own (upd H D u) Z (D :: Os.flatten) ∧
    ∀ {os0 : List Addr} {H0 : Hp} {Z0 : Addr → Prop}, Ext os0 H0 Z0 H Z (D :: Os.flatten) → Ext os0 H0 Z0 (upd H D u) Z (D :: Os.flatten) := by
  have nz : ¬ Z D := own.nz D List.mem_cons_self
  have nm : D ∉ Os.flatten := (List.nodup_cons.mp own.nd).1
  have ne : ∀ b o, H b = some o → b ≠ D → upd H D u b = some o := fun b o q n => (upd_ne n).trans q
  have o2 : Own (upd H D u) Z (D :: Os.flatten) := ⟨own.nd, own.nz, fun b m => by
    by_cases e : b = D
    · exact ⟨u, by rw [e, upd_same]⟩
    · obtain ⟨o, q⟩ := own.tr b m; exact ⟨o, ne b o q e⟩⟩
  refine ⟨⟨ok.ls, ok.lo, fun i t e => ?_, o2.sublist (List.sublist_cons_self _ _), upd_zt ok.zt⟩, o2, fun {os0 H0 Z0} e => ⟨fun b o q n => ?_, e.zz, e.zn, e.fr⟩⟩
  · obtain ⟨v, h1, h2⟩ := ok.get i t e
    exact ⟨v, h1, h2.upd nz fun m => nm (getD_mem m)⟩
  · have q' := e.same b o q n
    refine ne b o q' fun eb => ?_
    subst eb
    rcases e.fr b List.mem_cons_self with z | z
    · exact n z
    · rw [z] at q; cases q
theorem Keeps.of {os0 os : List Addr} {H0 : Hp} {Z0 : Addr → Prop} (e : Ext os0 H0 Z0 H Z os) (o : Own H0 Z0 os0) : Keeps H0 Z0 H := fun a u z q => e.keepZ o a u z q
end
theorem wipeE_twice (own : List Nat) (Γ : Env) : wipeE own (wipeE own Γ) = wipeE own Γ := by
  apply List.ext_getElem?
  intro i
  by_cases m : i ∈ own
  · have h : ∀ Γ : Env, (wipeE own Γ)[i]? = if i < Γ.length then some none else none := fun Γ => by
      by_cases hl : i < Γ.length
      · rw [if_pos hl]
        have hl' : i < (wipeE own Γ).length := by rw [wipeE_len]; exact hl
        rw [List.getElem?_eq_getElem hl']
        cases q : (wipeE own Γ)[i] with
        | none => rfl
        | some t => exact absurd (by rw [List.getElem?_eq_getElem hl', q]) (wipeE_in m t)
      · rw [if_neg hl, List.getElem?_eq_none (by rw [wipeE_len]; omega)]
    rw [h, h, wipeE_len]
  · rw [wipeE_out m]
mutual
theorem bindG_len : ∀ {g : G} {t : T} {Γ Γ' : Env}, bindG g t Γ = some Γ' → Γ'.length = Γ.length
  | .nm i, t, Γ, Γ', h => by
    simp only [bindG] at h
    split at h
    · cases h; simp
    · cases h
  | .tp gs, .tup xs, Γ, Γ', h => bindGs_len (by simpa only [bindG] using h)
  | .tp gs, .non, Γ, Γ', h => by simp [bindG] at h
  | .tp gs, .bl _, Γ, Γ', h => by simp [bindG] at h
  | .tp gs, .int _, Γ, Γ', h => by simp [bindG] at h
  | .tp gs, .str _, Γ, Γ', h => by simp [bindG] at h
  | .tp gs, .lst _ _, Γ, Γ', h => by simp [bindG] at h
  | .tp gs, .dic _ _ _, Γ, Γ', h => by simp [bindG] at h
  | .tp gs, .scr _, Γ, Γ', h => by simp [bindG] at h
theorem bindGs_len : ∀ {gs : List G} {ts : List T} {Γ Γ' : Env}, bindGs gs ts Γ = some Γ' → Γ'.length = Γ.length
  | [], [], Γ, Γ', h => by simp only [bindGs] at h; cases h; rfl
  | [], _ :: _, Γ, Γ', h => by simp [bindGs] at h
  | _ :: _, [], Γ, Γ', h => by simp [bindGs] at h
  | g :: gs, t :: ts, Γ, Γ', h => by
    simp only [bindGs] at h
    obtain ⟨Γ1, b1, b2⟩ := Option.bind_eq_some_iff.mp h
    rw [bindGs_len b2, bindG_len b1]
end
section
variable {X : Cx} {Φ : Nat → Spec}
theorem lc_imp {K : PySem.W.Frag} {own : List Nat} {it : I} {g : G} {c : Oc} {e : E} (hg : ∀ i ∈ gN g, i ∈ own) : ∀ σ H Q, tV K (wpE Φ (.lc own it g c e)) σ H Q →
    tLc (tI K it (wpI Φ it)) (tGT K g) (tQ K (wpOc Φ c)) (tV K (wpE Φ e)) own σ H Q := fun σ H Q ⟨Γ, Z, Os, Qt, ok, w, k⟩ => by
  simp only [wpE] at w
  refine ⟨Γ, Z, Os, _, ok, w, fun xs Γ1 H1 Z1 Os1 J q1 ok1 e1 io cap D hD => ?_⟩
  obtain ⟨cp, lp⟩ := q1
  have cap := cap cp
  have wl : (L2.wipe σ own).length = σ.length := wipe_length σ own
  -- the invariant
  refine ⟨fun i m H2 => m = xs.length - i ∧ i ≤ xs.length ∧ ∃ Γ2 Z2 Os2 ys vs, Ok K H2 Z2 (wipeE own Γ2) Os2 (L2.wipe σ own) ∧
    lcLoop own (fun x Γ' Kk => ∃ Γ2, bindG g x Γ' = some Γ2 ∧ wpOc Φ c Γ2 fun b Γ3 => if b = true then wpE Φ e Γ3 fun y Γ4 => isF y = true ∧ Kk (some y) Γ4 else Kk none Γ3) (xs.drop i) Γ2 ys (fun ys Γ' => Qt (.lst true ys) (backE own Γ1 Γ')) ∧
    H2 D = some (.lst vs) ∧ Reps K H2 Z2 ys [] vs ∧ isFs ys = true ∧ vs.length ≤ i ∧ Own H2 Z2 (D :: Os2.flatten) ∧ Ext Os1.flatten H1 Z1 H2 Z2 (D :: Os2.flatten), ⟨xs.length, by simp, Nat.zero_le _, ?_⟩, ?_⟩
  · obtain ⟨ex, ow⟩ := new_own (o := HO.lst []) hD ok1.zt
    have okw := ok1.wipe own wl fun i n => wipe_out n
    have ok2 := okw.ext0 ex (upd_zt ok1.zt)
    refine ⟨Γ1, Z1, _, [], [], ok2, lp, upd_same, by simp [Reps], rfl, Nat.le_refl _, ?_, ?_⟩
    · exact okw.own.ext0 ex ow
    · have := ex.frame (wipeO own Os1).flatten
      rw [List.append_nil] at this
      refine (this.wide (os1 := Os1.flatten) fun a m => (wipeO_sub own Os1).subset m).sub fun a m => ?_
      rcases List.mem_cons.mp m with m | m
      · exact List.mem_append_right _ (by rw [m]; simp)
      · exact List.mem_append_left _ m
  · rintro i m H2 ⟨rfl, hi, Γ2, Z2, Os2, ys, vs, ok2, lp2, hd2, ry, fy, hl, ow2, ex2⟩
    have kp := Keeps.of ex2 ok1.own
    by_cases hlt : i < xs.length
    · refine .inr ⟨io.goes i H2 hlt kp, _, fun H' p => ⟨xs.length - (i + 1), by omega, rfl, by omega, p⟩, fun x H3 y => ?_⟩
      obtain ⟨t, Z3, ht, ft, nw⟩ := io.yld i H2 Z2 x H3 kp ex2.zz ok2.zt hlt y
      have edrop : xs.drop i = t :: xs.drop (i + 1) := by
        rw [List.drop_eq_getElem_cons hlt]
        have := List.getElem?_eq_getElem hlt
        rw [this] at ht
        cases ht
        rfl
      rw [edrop] at lp2
      obtain ⟨Γ3, hb, lp3⟩ := lp2
      have ok3 := ok2.ext0 nw.ext nw.zt
      have ow3 : Own H3 Z3 (D :: Os2.flatten) := by have := ow2.ext0 nw.ext nw.own; simpa using this
      have ex3 : Ext Os1.flatten H1 Z1 H3 Z3 (D :: Os2.flatten) := by
        have := nw.ext.frame (D :: Os2.flatten)
        rw [List.append_nil] at this
        exact ex2.trans this
      have hd3 : H3 D = some (.lst vs) := nw.ext.same D _ hd2 (by simp)
      have ry3 : Reps K H3 Z3 ys [] vs := ry.keep nw.ext.zz (fun a u _ q => nw.ext.same a u q (by simp)) ys fun a m => absurd m (by simp)
      refine ⟨_, Z3, Os2, t, [], Γ3, ok3, nw.rep, by simpa using ok3.own, hb, fun σ4 Os4 ok4 sub4 kp4 => ?_⟩
      have off4 : ∀ j, j ∉ own → σ4[j]? = (L2.wipe σ own)[j]? := fun j n => kp4 j fun m => n (hg j m)
      have len4 : σ4.length = (L2.wipe σ own).length := by rw [ok4.ls, ok3.ls]; exact (bindG_len hb)
      refine ⟨?_, Γ3, Z3, Os4, _, ok4, lp3, fun b Γ5 H5 Z5 Os5 q5 ok5 e5 => ?_⟩
      · have : L2.wipe σ4 own = L2.wipe (L2.wipe σ own) own := wipe_eq len4 off4
        rw [this]
        exact wipe_eq wl fun j n => wipe_out n
      have ow4 : Own H3 Z3 ([D] ++ Os4.flatten) := by
        refine ⟨?_, fun a m => ?_, fun a m => ?_⟩
        · rw [List.singleton_append, List.nodup_cons]
          exact ⟨fun m => (List.nodup_cons.mp ow3.nd).1 (by simpa using sub4 D m), ok4.own.nd⟩
        · rcases List.mem_append.mp m with m | m
          · exact ow3.nz a (by rw [List.mem_singleton.mp m]; exact List.mem_cons_self)
          · exact ok4.own.nz a m
        · rcases List.mem_append.mp m with m | m
          · exact ow3.tr a (by rw [List.mem_singleton.mp m]; exact List.mem_cons_self)
          · exact ok4.own.tr a m
      have ex4 : Ext Os1.flatten H1 Z1 H3 Z3 ([D] ++ Os4.flatten) := ex3.sub fun a m => by
        rcases List.mem_append.mp m with m | m
        · rw [List.mem_singleton.mp m]; exact List.mem_cons_self
        · exact List.mem_cons_of_mem _ (by simpa using sub4 a m)
      have ow5 : Own H5 Z5 ([D] ++ Os5.flatten) := ow4.frame e5 ok5.own
      have ex5 : Ext Os1.flatten H1 Z1 H5 Z5 ([D] ++ Os5.flatten) := ex4.trans (e5.frame [D])
      have hd5 : H5 D = some (.lst vs) := e5.same D _ hd3 (ow4.apart (by simp))
      have ry5 : Reps K H5 Z5 ys [] vs := ry3.ext (t := []) e5 (by simpa using ok4.own)
      cases b with
      | false =>
        simp only [Bool.false_eq_true, if_false] at q5 ⊢
        have okw := ok5.wipe own (σ2 := L2.wipe σ own) len4.symm fun j n => (off4 j n).symm
        refine ⟨wipeE own Γ5, Z5, wipeO own Os5, ys, vs, ?_, by simpa using q5, hd5, ry5, fy, by omega, ow5.sublist ((wipeO_sub own Os5).append_left [D]), ex5.sub fun a m => ?_⟩
        · have : wipeE own (wipeE own Γ5) = wipeE own Γ5 := wipeE_twice own Γ5
          rw [this]; exact okw
        · rcases List.mem_cons.mp m with m | m
          · rw [m]; simp
          · exact List.mem_append_right _ ((wipeO_sub own Os5).subset m)
      | true =>
        simp only [if_true] at q5 ⊢
        refine ⟨Γ5, Z5, Os5, _, ok5, q5, fun y Γ6 v H6 Z6 Os6 os6 q6 r6 => ?_⟩
        obtain ⟨fy6, q6⟩ := q6
        have n6 := r6.nilF fy6
        subst n6
        have e6 := r6.exto
        have ow6 : Own H6 Z6 ([D] ++ Os6.flatten) := ow5.frame e6 r6.ok.own
        have ex6 : Ext Os1.flatten H1 Z1 H6 Z6 ([D] ++ Os6.flatten) := ex5.trans (e6.frame [D])
        have hd6 : H6 D = some (.lst vs) := e6.same D _ hd5 (ow5.apart (by simp))
        have ry6 : Reps K H6 Z6 ys [] vs := ry5.ext (t := []) e6 (by simpa using ok5.own)
        have nzD : ¬ Z6 D := ow6.nz D (by simp)
        obtain ⟨ok7, ow7, ext7⟩ := r6.ok.side (u := .lst (vs ++ [v])) (os := []) ow6
        have okw := ok7.wipe own (σ2 := L2.wipe σ own) len4.symm fun j n => (off4 j n).symm
        refine ⟨vs, hd6, by omega, wipeE own Γ6, Z6, wipeO own Os6, ys ++ [y], vs ++ [v], ?_, by simpa using q6, upd_same, ?_, ?_, by simp; omega, ow7.sublist ((wipeO_sub own Os6).append_left [D]), (ext7 ex6).sub fun a m => ?_⟩
        · have : wipeE own (wipeE own Γ6) = wipeE own Γ6 := wipeE_twice own Γ6
          rw [this]; exact okw
        · have r1 := ry6.upd (u := .lst (vs ++ [v])) nzD (by simp)
          have r2 := r6.rep.upd (u := .lst (vs ++ [v])) nzD (by simp)
          have := r1.append (us := [y]) (o2 := []) (ws := [v]) (by simp only [Reps]; exact ⟨[], [], v, [], rfl, rfl, r2, rfl, rfl⟩)
          simpa using this
        · rw [isFs_all, List.all_append, ← isFs_all, fy]; simp [fy6]
        · rcases List.mem_cons.mp m with m | m
          · rw [m]; simp
          · exact List.mem_cons_of_mem _ ((wipeO_sub own Os6).subset m)
    · have e : i = xs.length := by omega
      subst e
      refine .inl ⟨io.stops H2 kp, ?_⟩
      rw [List.drop_length] at lp2
      have okB : Ok K H2 Z2 (backE own Γ1 Γ2) (wipeO own Os2) σ := by
        have oks := ok2.own.sublist (wipeO_sub own Os2)
        refine ⟨?_, by rw [wipeO_len, backE_len]; have := ok2.lo; rw [wipeE_len] at this; exact this, fun j t e => ?_, oks, ok2.zt⟩
        · have := ok2.ls
          rw [wl, wipeE_len] at this
          rw [backE_len]; exact this
        · by_cases m : j ∈ own
          · obtain ⟨g1, f1⟩ := backE_in m e
            obtain ⟨v, h1, h2⟩ := ok1.get j t g1
            have n := h2.nil t f1
            rw [n] at h2
            rw [wipeO_in m]
            exact ⟨v, h1, h2.keep ex2.zz (ex2.keepZ ok1.own) t fun a m => absurd m (by simp)⟩
          · rw [backE_out m] at e
            obtain ⟨v, h1, h2⟩ := ok2.get j t (by rw [wipeE_out m]; exact e)
            rw [wipe_out m] at h1
            exact ⟨v, h1, by rw [wipeO_out m]; exact h2⟩
      refine k (.lst true ys) _ (.ref D) H2 Z2 (wipeO own Os2) [D] lp2 ⟨okB, ?_, ow2.sublist ((wipeO_sub own Os2).append_left [D]), e1.trans (ex2.sub fun a m => ?_)⟩
      · simp only [Rep]
        exact ⟨D, vs, rfl, [], rfl, hd2, ry⟩
      · rcases List.mem_append.mp m with m | m
        · rw [List.mem_singleton.mp m]; exact List.mem_cons_self
        · exact List.mem_cons_of_mem _ ((wipeO_sub own Os2).subset m)
end
end PL

end
section
set_option maxHeartbeats 4000000
/-! PLm: enumerate, zip over lists and tuples in any mix. -/
namespace PL
open PySem PySem.Spec L2
open PyProof.Rows hiding St
open PySem (Goes Draws WalksT Begins)

/-! ### enumerate(v) begins, v whatever begins -/
theorem meets_enumB1 {v : Value} {o : Obj} {H : Heap → Prop} (B : Begins v o H) :
    Meets (Builtin.«enumerate.__new__» ⟨[.type "enumerate", v], []⟩) (fun _ R s => H s.heap ∧
      R (.ok (.ret (.ref (s.heap.push o).objs.size))) { s with heap := (s.heap.push o).push { cls := .type "enumerate", data := .fields #[.none, .bool false, .ref s.heap.objs.size, rawInt 0, .none, .none] } }) :=
  .of_wp fun prog w A R s h => by
    obtain ⟨hp, g, d, tk, os⟩ := s; obtain ⟨h1, h⟩ := h
    have hsub := sub_enumerate
    have q1 : ∀ {A' : Around} {E : Value → Shared → Prop} {Q : Value → Shared → Prop}, Q (.ref hp.objs.size) ⟨hp.push o, g, d, tk, os⟩ → wpAny (model prog w) A' (pyIter v) Q E ⟨hp, g, d, tk, os⟩ :=
      fun q => B.iter prog w _ _ ⟨hp, g, d, tk, os⟩ _ h1 q
    wp_walk using q1
    refine wpAny_stack_any fun st => wpAny_pure ?_
    split
    · rename_i c _ _ _ _ _
      cases (c == Value.type "enumerate")
      · wp_walk using q1
        exact ⟨_, rfl, h⟩
      · wp_walk using q1
        exact ⟨_, rfl, h⟩
    · wp_walk using q1
      exact ⟨_, rfl, h⟩
section
variable {prog : Program} {w : World} {A : Around} {E : Value → Shared → Prop} {s : Shared}
theorem enum_begins1 {v : Value} {o : Obj} {H : Heap → Prop} {Q : Value → Shared → Prop} (B : Begins v o H) (h1 : H s.heap)
    (h : ∀ h', IsEnum h' (s.heap.objs.size + 1) s.heap.objs.size 0 .none → h'.get? s.heap.objs.size = some o → h'.objs.size = s.heap.objs.size + 2 →
      (∀ b o, s.heap.get? b = some o → h'.get? b = some o) → Q (.ref (s.heap.objs.size + 1)) { s with heap := h' }) :
    wpAny (model prog w) A (call (.type "enumerate") [v]) Q E s := by
  refine callType_new F.called_enumerate (by decide) (F.typeCall_enumerate_1 _) (F.newCall_enumerate_1 _) (fun obj => F.args_object_init_2 obj _) F.entry_enumerate_new
    (meets_enumB1 B) ⟨h1, ?_⟩
  have hz : (s.heap.push o).objs.size = s.heap.objs.size + 1 := Heap.size_push ..
  show _ ∧ _
  rw [hz]
  have he : IsEnum ((s.heap.push o).push { cls := .type "enumerate", data := .fields #[.none, .bool false, .ref s.heap.objs.size, rawInt 0, .none, .none] }) (s.heap.objs.size + 1) s.heap.objs.size 0 .none := by
    have := Heap.get?_push_size (s.heap.push o) (o := { cls := .type "enumerate", data := .fields #[.none, .bool false, .ref s.heap.objs.size, rawInt 0, .none, .none] }) rfl
    rw [hz] at this; exact this
  refine ⟨⟨_, he, rfl⟩, h _ he (Heap.get?_push_of_some _ (Heap.get?_push_size _ B.free)) (by rw [Heap.size_push, hz]) fun b o x => Heap.get?_push_of_some _ (Heap.get?_push_of_some _ x)⟩
end

/-! ### lists and tuples alike -/
def IsSq (b : Bool) (h : Heap) (a : Addr) (its : Array Value) : Prop := match b with | true => h.IsList a its | false => h.IsTuple a its
def itO (b : Bool) (a : Addr) : Obj := match b with
  | true => { cls := .type "list_iterator", data := .fields #[.ref a, .int 0 0] }
  | false => { cls := .type "tuple_iterator", data := .fields #[.ref a, .int 0 0] }
def IsItr (b : Bool) (h : Heap) (it a : Addr) (i : Nat) : Prop := match b with | true => h.IsListIter it a i | false => h.IsTupleIter it a i
theorem begins_sq (b : Bool) (a : Addr) (its : Array Value) : Begins (.ref a) (itO b a) (fun h => IsSq b h a its) := by
  cases b with
  | true => exact begins_list a its
  | false => exact begins_tuple a its
theorem draws_sq {prog : Program} {w : World} {A : Around} (b : Bool) (hh : A.handled = none) (it a : Addr) (hne : a ≠ it) (its : Array Value) :
    Draws prog w A it [it, a] its.size (fun i v => its[i]? = some v) (fun i h => IsItr b h it a i ∧ IsSq b h a its) := by
  cases b with
  | true => exact Draws.list hh it a hne its
  | false => exact Draws.tuple hh it a hne its
theorem isItr_at {b : Bool} {h h' : Heap} {it a : Addr} {i : Nat} (x : IsItr b h it a i) (k : ∀ o, h.get? it = some o → h'.get? it = some o) : IsItr b h' it a i := by
  cases b with
  | true => exact Heap.IsListIter.at x k
  | false => exact Heap.IsTupleIter.at x k
theorem isItr_obj {b : Bool} {h : Heap} {it a : Addr} {i : Nat} (x : IsItr b h it a i) : ∃ o, h.get? it = some o ∧ ∀ v, o.data ≠ .cell v := by
  cases b with
  | true =>
    obtain ⟨o, e, c, d⟩ := x
    exact ⟨o, e, fun v z => by rw [d] at z; cases z⟩
  | false =>
    obtain ⟨o, e, c, d⟩ := x
    exact ⟨o, e, fun v z => by rw [d] at z; cases z⟩
theorem isItr_new {b : Bool} {h : Heap} {it a : Addr} (x : h.get? it = some (itO b a)) : IsItr b h it a 0 := by
  cases b with
  | true => exact ⟨_, x, rfl, rfl⟩
  | false => exact ⟨_, x, rfl, rfl⟩
def SqB (K : PySem.W.Frag) (b : Bool) (H : Hp) (a : Addr) (vs : List V) : Prop := match b with | true => SqL K H a vs | false => SqT K H a vs
theorem sqB {X : Cx} {pins : List (Addr × Obj)} {σ : L2.St} {H : Hp} {s : Shared} {b : Bool} {a : Addr} {vs : List V} (I : Inv X pins σ H s) (h : SqB X.K b H a vs) : ∃ its : List Value, Vals vs its ∧ IsSq b s.heap a its.toArray := by
  cases b with
  | true =>
    obtain ⟨its, rv, p, _⟩ := I.list h
    exact ⟨its, rv, p.isList⟩
  | false =>
    obtain ⟨its, rv, p, _⟩ := I.tuple h
    exact ⟨its, rv, p⟩
theorem isSq_lt {b : Bool} {h : Heap} {a : Addr} {its : Array Value} (x : IsSq b h a its) : a < h.objs.size := by
  cases b with
  | true => obtain ⟨o, e, _⟩ := x; exact Heap.lt_size e
  | false => obtain ⟨o, e, _⟩ := x; exact Heap.lt_size e

/-! ### an iterator of tuples -/
/-- n turns while G stands, a new tuple yv i each -/
def ItW (G : Hp → Prop) (n : Nat) (yv : Nat → List V) : It :=
  ⟨fun i H => i < n ∧ G H, fun i H v H' => ∃ T, v = .ref T ∧ H T = none ∧ H' = upd H T (.tup (yv i)), fun i H => i = n ∧ G H⟩
structure Wlk (X : Cx) (it : Addr) (fp : List Addr) (n : Nat) (yv : Nat → List V) (tn : Nat → Heap → Prop) (h : Heap) : Prop where
  ex : ∃ (fpW wr : List Addr) (Pt : Nat → Array Value → Prop) (St : Nat → Heap → Prop) (Mid : Nat → Addr → Heap → Prop), WalksT X.prog X.w X.A it fpW wr n Pt St Mid ∧ (∀ b ∈ wr, b ∈ fp) ∧ (∀ i, tn i h → St i h) ∧ (∀ i h, St i h → tn i h) ∧
    (∀ i vals, Pt i vals → Vals (yv i) vals.toList) ∧ ∀ i, (yv i).length ≤ sizeLine
theorem Wlk.of {X : Cx} {it : Addr} {fp : List Addr} {n : Nat} {yv : Nat → List V} {tn : Nat → Heap → Prop} {h : Heap} {fpW wr : List Addr} {Pt : Nat → Array Value → Prop} {St : Nat → Heap → Prop} {Mid : Nat → Addr → Heap → Prop} (W : WalksT X.prog X.w X.A it fpW wr n Pt St Mid)
    (h1 : ∀ b ∈ wr, b ∈ fp) (h2 : ∀ i, tn i h → St i h) (h3 : ∀ i h, St i h → tn i h) (h4 : ∀ i vals, Pt i vals → Vals (yv i) vals.toList) (h5 : ∀ i, (yv i).length ≤ sizeLine) : Wlk X it fp n yv tn h := ⟨fpW, wr, Pt, St, Mid, W, h1, h2, h3, h4, h5⟩
theorem turn_W {P : Program} {w : World} {K : PySem.W.Frag} {elts : List Expr} {kk : Nat} {tpos : Pos} {G : Hp → Prop} {n : Nat} {yv : Nat → List V} {it : Addr} {fp : List Addr} {tn : Nat → Heap → Prop} (mem : it ∈ fp)
    (obj : ∀ i h, tn i h → ∀ b ∈ fp, ∃ o, h.get? b = some o ∧ ∀ v, o.data ≠ .cell v) (keep : ∀ i h h', tn i h → (∀ b ∈ fp, ∀ o, h.get? b = some o → h'.get? b = some o) → tn i h')
    (self : ∀ (A : Around) (i : Nat) (s : Shared) (Q : Value → Shared → Prop) (E : Value → Shared → Prop), tn i s.heap → Q (.ref it) s → wpAny (model P w) A (pyIter (.ref it)) Q E s)
    (W : ∀ X : Cx, X.prog = P → X.w = w → X.K = K → X.calm = true → ∀ (pins : List (Addr × Obj)) (s : Shared) (σ : L2.St) (H : Hp), Inv X pins σ H s → G H → Wlk X it fp n yv tn s.heap) :
    Turn P w K (.Tuple elts kk tpos) (ItW G n yv) fp it tn where
  mem := mem
  obj := obj
  keep := keep
  item := by
    intro X hP hw hK hc i pins s σ H E I hf st hg
    obtain ⟨hi, hg⟩ := hg
    obtain ⟨fpW, wr, Pt, St, Mid, wt, hwr, to, from_, rel, sz⟩ := (W X hP hw hK hc pins s σ H I hg).ex
    subst hP hw hK
    refine wt.item i s _ _ hi (to i st) fun T vals h' tk hPt hsz hT hm hk => ⟨.ref T, rfl, ?_⟩
    have nT := wt.apart i T h' hm
    refine wt.go elts kk tpos i T { s with heap := h', toks := tk } _ _ hm fun h'' st'' hk'' => ?_
    have hT2 : h''.IsTuple T vals := by
      obtain ⟨o, e, r⟩ := hT
      exact ⟨o, hk'' T o nT e, r⟩
    have new : ObjOk X.prog X.w (upd H T (.tup (yv i))) h'' T (.tup (yv i)) := ⟨sz i, vals.toList, rel i vals hPt, by rw [show vals.toList.toArray = vals by simp]; exact hT2⟩
    have I1 : Inv X pins σ (upd H T (.tup (yv i))) { s with heap := h'', toks := tk } :=
      I.turnedNew (ch := wr) (fun b o hb e => hk'' b o hb (hk b o hb e)) (fun b hb => hf b (hwr b hb)) hsz new
    refine ⟨.ref T, _, I1, rfl, ⟨T, rfl, I.hok.fresh hsz, rfl⟩, from_ _ _ st'', fun b hb => ?_⟩
    have hlt : b < s.heap.objs.size := by
      obtain ⟨o, e, _⟩ := obj i _ st b hb
      exact Heap.lt_size e
    rw [upd_ne (show b ≠ T from fun e => by subst e; exact absurd hlt (Nat.not_lt.mpr hsz))]
    exact (hf b hb).1
  done := by
    intro X hP hw hK hc i pins s σ H E I hf st hg
    obtain ⟨hi, hg⟩ := hg
    obtain ⟨fpW, wr, Pt, St, Mid, wt, hwr, to, from_, rel, sz⟩ := (W X hP hw hK hc pins s σ H I hg).ex
    subst hP hw hK hi
    refine wt.done s _ _ (to _ st) fun h' tk hk => ⟨rfl, ?_⟩
    exact I.turnedL (t' := tk) (ch := wr) (fun b o hb e => hk b o hb e) fun b hb => hf b (hwr b hb)
  self := self

theorem val_get {ws : List V} {its : List Value} (r : Vals ws its) {i : Nat} {u : Value} (h : its.toArray[i]? = some u) : RelV (ws.getD i .non) u := by
  have h : its[i]? = some u := by simpa using h
  have hi : i < its.length := (List.getElem?_eq_some_iff.mp h).1
  have hi' : i < ws.length := by rw [r.length]; exact hi
  have hw : ws[i]? = some ws[i] := by simp [hi']
  obtain ⟨u', h1, h2⟩ := r.get hw
  rw [h] at h1
  cases h1
  rw [List.getD_eq_getElem?_getD, hw]
  exact h2
section
variable {X : Cx}
theorem pi_enumB {e : Expr} {ta : TA} {p pos tpos : Pos} {elts : List Expr} {kk : Nat} (hg : Gl X "enumerate") (hm : X.mg "enumerate" = none) (ha : PA X [e] ta) (hs : starEach [e] X.env = [(false, eval e X.env)]) :
    PI X (.Tuple elts kk tpos) (.Call (.Name "enumerate" p) [e] [] pos) (fun σ H R => ta σ H fun vs H1 => ∃ a b ws, vs = [.ref a] ∧ SqB X.K b H1 a ws ∧ R (ItW (fun H => SqB X.K b H a ws) ws.length fun i => [.int (i : Nat), ws.getD i .non]) H1) := by
  refine ⟨fun pins s σ H R I h => ?_⟩
  refine Call_ (ld_blt I hg hm boot_enumerate (PyProof.Rows.callWith_type1 (thn (ha.run pos pins s σ H _ I h) fun us s1 ⟨vs, H1, I1, r1, q1⟩ => ?_) hs rfl))
  obtain ⟨a, b, ws, ex, hq, q⟩ := q1
  subst ex
  obtain ⟨u, rfl, ru⟩ := Vals.one r1
  cases ru
  obtain ⟨its, rv, p'⟩ := sqB I1 hq
  have alt := isSq_lt p'
  refine enum_begins1 (begins_sq b a its.toArray) p' fun h' he hit hsz hk => wpAny_pyIter_enum he ?_
  have I2 : Inv X pins σ H1 { s1 with heap := h' } := I1.kept (t' := s1.toks) hk
  refine ⟨s1.heap.objs.size + 1, [s1.heap.objs.size + 1, s1.heap.objs.size], fun i h => (∃ old, IsEnum h (s1.heap.objs.size + 1) s1.heap.objs.size ((i : Nat) : Int) old) ∧ IsItr b h s1.heap.objs.size a i, _, H1, rfl, I2, ?_, ⟨⟨.none, he⟩, isItr_new hit⟩, fun c hc => ?_, q⟩
  · refine turn_W (by simp) (fun i h st c hc => ?_) (fun i h h' st k => ?_) (fun A i s Q E st hh => ?_) fun Y hP hw hK hc pins s σ H I hg => ?_
    · obtain ⟨⟨old, he⟩, ho⟩ := st
      have e' : c = s1.heap.objs.size + 1 ∨ c = s1.heap.objs.size := by simpa using hc
      rcases e' with z | z
      · rw [z]; exact ⟨_, he, fun v q => nomatch q⟩
      · rw [z]; exact isItr_obj ho
    · obtain ⟨⟨old, he⟩, ho⟩ := st
      exact ⟨⟨old, k _ (by simp) _ he⟩, isItr_at ho fun o q => k _ (by simp) o q⟩
    · obtain ⟨⟨old, he⟩, ho⟩ := st
      exact wpAny_pyIter_enum he hh
    · have hg' : SqB Y.K b H a ws := by rw [hK]; exact hg
      obtain ⟨its2, rv2, p2⟩ := sqB I hg'
      have hh : Y.A.in1.handled = none := I.ok.hd hc
      have W := WalksT.enumerateD (draws_sq (prog := Y.prog) (w := Y.w) (A := Y.A.in1) b hh s1.heap.objs.size a (Nat.ne_of_lt alt) its2.toArray) (s1.heap.objs.size + 1) (Nat.succ_ne_self _) (by
        intro m
        have e' : s1.heap.objs.size + 1 = s1.heap.objs.size ∨ s1.heap.objs.size + 1 = a := by simpa using m
        rcases e' with z | z
        · exact Nat.succ_ne_self _ z
        · exact absurd alt (by rw [← z]; exact Nat.not_lt.mpr (Nat.le_succ _))) (by simp)
      have en : its2.toArray.size = ws.length := by simp [rv2.length]
      rw [en] at W
      refine Wlk.of W (fun c hc => by simpa using hc) (fun i st => ⟨st.1, st.2, p2⟩) (fun i h st => ⟨st.1, st.2.1⟩) (fun i vals hp => ?_) fun i => by show 2 ≤ sizeLine; decide
      obtain ⟨t, x, hx, rfl⟩ := hp
      exact .cons ⟨t, rfl⟩ (.cons (val_get rv2 hx) .nil)
  · have e' : c = s1.heap.objs.size + 1 ∨ c = s1.heap.objs.size := by simpa using hc
    have hle : s1.heap.objs.size ≤ c := by
      rcases e' with z | z
      · rw [z]; exact Nat.le_add_right _ _
      · rw [z]; exact Nat.le_refl _
    exact I1.fpOk hle (I1.hok.fresh hle)
theorem pi_zipB {e1 e2 : Expr} {ta : TA} {p pos tpos : Pos} {elts : List Expr} {kk : Nat} (hg : Gl X "zip") (hm : X.mg "zip" = none) (ha : PA X [e1, e2] ta)
    (hs : starEach [e1, e2] X.env = (false, eval e1 X.env) :: starEach [e2] X.env) (hpl : (backTo pos (starEach [e2] X.env)).any (·.1) = false) :
    PI X (.Tuple elts kk tpos) (.Call (.Name "zip" p) [e1, e2] [] pos) (fun σ H R => ta σ H fun vs H1 => ∃ a b ka kb xs ys, vs = [.ref a, .ref b] ∧ SqB X.K ka H1 a xs ∧ SqB X.K kb H1 b ys ∧
      R (ItW (fun H => SqB X.K ka H a xs ∧ SqB X.K kb H b ys) (min xs.length ys.length) fun i => [xs.getD i .non, ys.getD i .non]) H1) := by
  refine ⟨fun pins s σ H R I h => ?_⟩
  refine Call_ (ld_blt I hg hm PyProof.Rows.boot_zip (PyProof.Rows.callWith_type1 (thn (ha.run pos pins s σ H _ I h) fun us s1 ⟨vs, H1, I1, r1, q1⟩ => ?_) hs hpl))
  obtain ⟨a, b, ka, kb, xs, ys, ex, hqa, hqb, q⟩ := q1
  subst ex
  obtain ⟨u, v, rfl, ru, rv⟩ := Vals.two r1
  cases ru
  cases rv
  obtain ⟨ita, rva, pa⟩ := sqB I1 hqa
  obtain ⟨itb, rvb, pb⟩ := sqB I1 hqb
  have alt := isSq_lt pa
  have blt := isSq_lt pb
  refine zip_begins2 (begins_sq ka a ita.toArray) (begins_sq kb b itb.toArray) pa pb fun h' hz hTI hTO h1 h2 hsz hk => wpAny_pyIter_zip hz ?_
  have I2 : Inv X pins σ H1 { s1 with heap := h' } := I1.kept (t' := s1.toks) hk
  generalize hN : s1.heap.objs.size = N at *
  have mem5 : ∀ {c}, c ∈ [N + 4, N + 2, N + 3, N, N + 1] → c = N + 4 ∨ c = N + 2 ∨ c = N + 3 ∨ c = N ∨ c = N + 1 := fun {c} hc => by simpa using hc
  refine ⟨N + 4, [N + 4, N + 2, N + 3, N, N + 1], fun i h => IsZip h (N + 4) (N + 2) (N + 3) .none ∧ IsTupOf2 h (N + 2) (.ref N) (.ref (N + 1)) ∧ (∃ a1 a2, IsTupOf2 h (N + 3) a1 a2) ∧ IsItr ka h N a i ∧ IsItr kb h (N + 1) b i, _, H1, rfl, I2, ?_,
    ⟨hz, hTI, ⟨_, _, hTO⟩, isItr_new h1, isItr_new h2⟩, fun c hc => ?_, q⟩
  · refine turn_W (by simp) (fun i h st c hc => ?_) (fun i h h' st k => ?_) (fun A i s Q E st hh => wpAny_pyIter_zip st.1 hh) fun Y hP hw hK hc pins s σ H I hg => ?_
    · obtain ⟨s1, s2, ⟨a1, a2, s3⟩, s4, s5⟩ := st
      rcases mem5 hc with z | z | z | z | z <;> rw [z]
      · exact ⟨_, s1, fun v q => nomatch q⟩
      · exact ⟨_, s2, fun v q => nomatch q⟩
      · exact ⟨_, s3, fun v q => nomatch q⟩
      · exact isItr_obj s4
      · exact isItr_obj s5
    · obtain ⟨s1, s2, ⟨a1, a2, s3⟩, s4, s5⟩ := st
      exact ⟨k _ (by simp) _ s1, k _ (by simp) _ s2, ⟨a1, a2, k _ (by simp) _ s3⟩, isItr_at s4 fun o q => k _ (by simp) o q, isItr_at s5 fun o q => k _ (by simp) o q⟩
    · have hga : SqB Y.K ka H a xs := by rw [hK]; exact hg.1
      have hgb : SqB Y.K kb H b ys := by rw [hK]; exact hg.2
      obtain ⟨ia, ra, p1⟩ := sqB I hga
      obtain ⟨ib, rb, p2⟩ := sqB I hgb
      have hh : Y.A.in1.handled = none := I.ok.hd hc
      have W := WalksT.zipD2 (zip_sep2 (N := N) (fp1 := [a]) (fp2 := [b]) (by simpa using alt) (by simpa using blt)) (draws_sq (prog := Y.prog) (w := Y.w) (A := Y.A.in1) ka hh N a (Nat.ne_of_lt alt) ia.toArray) (draws_sq (prog := Y.prog) (w := Y.w) (A := Y.A.in1) kb hh (N + 1) b (Nat.ne_of_lt (Nat.lt_succ_of_lt blt)) ib.toArray)
      have ea : ia.toArray.size = xs.length := by simp [ra.length]
      have eb : ib.toArray.size = ys.length := by simp [rb.length]
      rw [ea, eb] at W
      refine Wlk.of W (fun c hc => ?_) (fun i st => ⟨st.1, st.2.1, st.2.2.1, ⟨st.2.2.2.1, p1⟩, st.2.2.2.2, p2⟩) (fun i h st => ⟨st.1, st.2.1, st.2.2.1, st.2.2.2.1.1, st.2.2.2.2.1⟩) (fun i vals hp => ?_) fun i => by show 2 ≤ sizeLine; decide
      · have : c = N + 4 ∨ c = N + 3 ∨ c = N ∨ c = N + 1 := by simpa using hc
        rcases this with z | z | z | z <;> rw [z] <;> simp
      · obtain ⟨x, y, hx, hy, rfl⟩ := hp
        exact .cons (val_get ra hx) (.cons (val_get rb hy) .nil)
  · have hle : N ≤ c := by
      rcases mem5 hc with z | z | z | z | z <;> rw [z]
      · exact Nat.le_add_right _ _
      · exact Nat.le_add_right _ _
      · exact Nat.le_add_right _ _
      · exact Nat.le_refl _
      · exact Nat.le_add_right _ _
    rw [← hN] at hle
    exact I1.fpOk hle (I1.hok.fresh hle)
theorem pi_zipC {e1 e2 e3 : Expr} {ta : TA} {p pos tpos : Pos} {elts : List Expr} {kk : Nat} (hg : Gl X "zip") (hm : X.mg "zip" = none) (ha : PA X [e1, e2, e3] ta)
    (hs : starEach [e1, e2, e3] X.env = (false, eval e1 X.env) :: starEach [e2, e3] X.env) (hpl : (backTo pos (starEach [e2, e3] X.env)).any (·.1) = false) :
    PI X (.Tuple elts kk tpos) (.Call (.Name "zip" p) [e1, e2, e3] [] pos) (fun σ H R => ta σ H fun vs H1 => ∃ a b c ka kb kc xs ys zs, vs = [.ref a, .ref b, .ref c] ∧ SqB X.K ka H1 a xs ∧ SqB X.K kb H1 b ys ∧ SqB X.K kc H1 c zs ∧
      R (ItW (fun H => SqB X.K ka H a xs ∧ SqB X.K kb H b ys ∧ SqB X.K kc H c zs) (min (min xs.length ys.length) zs.length) fun i => [xs.getD i .non, ys.getD i .non, zs.getD i .non]) H1) := by
  refine ⟨fun pins s σ H R I h => ?_⟩
  refine Call_ (ld_blt I hg hm PyProof.Rows.boot_zip (PyProof.Rows.callWith_type1 (thn (ha.run pos pins s σ H _ I h) fun us s1 ⟨vs, H1, I1, r1, q1⟩ => ?_) hs hpl))
  obtain ⟨a, b, c3, ka, kb, kc, xs, ys, zs, ex, hqa, hqb, hqc, q⟩ := q1
  subst ex
  have r3 : ∃ u v w, us = [u, v, w] ∧ RelV (.ref a) u ∧ RelV (.ref b) v ∧ RelV (.ref c3) w := by
    cases r1 with
    | cons q1 r1 =>
      obtain ⟨u, v, rfl, h1, h2⟩ := Vals.two r1
      exact ⟨_, _, _, rfl, q1, h1, h2⟩
  obtain ⟨u, v, w, rfl, ru, rv, rw'⟩ := r3
  cases ru
  cases rv
  cases rw'
  obtain ⟨ita, rva, pa⟩ := sqB I1 hqa
  obtain ⟨itb, rvb, pb⟩ := sqB I1 hqb
  obtain ⟨itc, rvc, pc⟩ := sqB I1 hqc
  have alt := isSq_lt pa
  have blt := isSq_lt pb
  have clt := isSq_lt pc
  refine zip_begins3 (begins_sq ka a ita.toArray) (begins_sq kb b itb.toArray) (begins_sq kc c3 itc.toArray) pa pb pc fun h' hz hTI hTO h1 h2 h3 hsz hk => wpAny_pyIter_zip hz ?_
  have I2 : Inv X pins σ H1 { s1 with heap := h' } := I1.kept (t' := s1.toks) hk
  generalize hN : s1.heap.objs.size = N at *
  have mem6 : ∀ {c}, c ∈ [N + 5, N + 3, N + 4, N, N + 1, N + 2] → c = N + 5 ∨ c = N + 3 ∨ c = N + 4 ∨ c = N ∨ c = N + 1 ∨ c = N + 2 := fun {c} hc => by simpa using hc
  refine ⟨N + 5, [N + 5, N + 3, N + 4, N, N + 1, N + 2], fun i h => IsZip h (N + 5) (N + 3) (N + 4) .none ∧ IsTupOf3 h (N + 3) (.ref N) (.ref (N + 1)) (.ref (N + 2)) ∧ (∃ a1 a2 a3, IsTupOf3 h (N + 4) a1 a2 a3) ∧ IsItr ka h N a i ∧ IsItr kb h (N + 1) b i ∧ IsItr kc h (N + 2) c3 i, _, H1, rfl, I2, ?_,
    ⟨hz, hTI, ⟨_, _, _, hTO⟩, isItr_new h1, isItr_new h2, isItr_new h3⟩, fun c hc => ?_, q⟩
  · refine turn_W (by simp) (fun i h st c hc => ?_) (fun i h h' st k => ?_) (fun A i s Q E st hh => wpAny_pyIter_zip st.1 hh) fun Y hP hw hK hc pins s σ H I hg => ?_
    · obtain ⟨s1, s2, ⟨a1, a2, a3, s3⟩, s4, s5, s6⟩ := st
      rcases mem6 hc with z | z | z | z | z | z <;> rw [z]
      · exact ⟨_, s1, fun v q => nomatch q⟩
      · exact ⟨_, s2, fun v q => nomatch q⟩
      · exact ⟨_, s3, fun v q => nomatch q⟩
      · exact isItr_obj s4
      · exact isItr_obj s5
      · exact isItr_obj s6
    · obtain ⟨s1, s2, ⟨a1, a2, a3, s3⟩, s4, s5, s6⟩ := st
      exact ⟨k _ (by simp) _ s1, k _ (by simp) _ s2, ⟨a1, a2, a3, k _ (by simp) _ s3⟩, isItr_at s4 fun o q => k _ (by simp) o q, isItr_at s5 fun o q => k _ (by simp) o q, isItr_at s6 fun o q => k _ (by simp) o q⟩
    · have hga : SqB Y.K ka H a xs := by rw [hK]; exact hg.1
      have hgb : SqB Y.K kb H b ys := by rw [hK]; exact hg.2.1
      have hgc : SqB Y.K kc H c3 zs := by rw [hK]; exact hg.2.2
      obtain ⟨ia, ra, p1⟩ := sqB I hga
      obtain ⟨ib, rb, p2⟩ := sqB I hgb
      obtain ⟨ic, rc, p3⟩ := sqB I hgc
      have hh : Y.A.in1.handled = none := I.ok.hd hc
      have W := WalksT.zipD3 (zip_sep3 (N := N) (fp1 := [a]) (fp2 := [b]) (fp3 := [c3]) (by simpa using alt) (by simpa using blt) (by simpa using clt)) (draws_sq (prog := Y.prog) (w := Y.w) (A := Y.A.in1) ka hh N a (Nat.ne_of_lt alt) ia.toArray)
        (draws_sq (prog := Y.prog) (w := Y.w) (A := Y.A.in1) kb hh (N + 1) b (Nat.ne_of_lt (Nat.lt_succ_of_lt blt)) ib.toArray) (draws_sq (prog := Y.prog) (w := Y.w) (A := Y.A.in1) kc hh (N + 2) c3 (Nat.ne_of_lt (Nat.lt_succ_of_lt (Nat.lt_succ_of_lt clt))) ic.toArray)
      have ea : ia.toArray.size = xs.length := by simp [ra.length]
      have eb : ib.toArray.size = ys.length := by simp [rb.length]
      have ec : ic.toArray.size = zs.length := by simp [rc.length]
      rw [ea, eb, ec] at W
      refine Wlk.of W (fun c hc => ?_) (fun i st => ⟨st.1, st.2.1, st.2.2.1, ⟨st.2.2.2.1, p1⟩, ⟨st.2.2.2.2.1, p2⟩, st.2.2.2.2.2, p3⟩) (fun i h st => ⟨st.1, st.2.1, st.2.2.1, st.2.2.2.1.1, st.2.2.2.2.1.1, st.2.2.2.2.2.1⟩) (fun i vals hp => ?_) fun i => by show 3 ≤ sizeLine; decide
      · have : c = N + 5 ∨ c = N + 4 ∨ c = N ∨ c = N + 1 ∨ c = N + 2 := by simpa using hc
        rcases this with z | z | z | z | z <;> rw [z] <;> simp
      · obtain ⟨x, y, z, hx, hy, hz, rfl⟩ := hp
        exact .cons (val_get ra hx) (.cons (val_get rb hy) (.cons (val_get rc hz) .nil))
  · have hle : N ≤ c := by
      rcases mem6 hc with z | z | z | z | z | z <;> rw [z]
      · exact Nat.le_add_right _ _
      · exact Nat.le_add_right _ _
      · exact Nat.le_add_right _ _
      · exact Nat.le_refl _
      · exact Nat.le_add_right _ _
      · exact Nat.le_add_right _ _
    rw [← hN] at hle
    exact I1.fpOk hle (I1.hok.fresh hle)
end
end PL

end
section
set_option maxHeartbeats 4000000
/-! PLz: zip over any number of lists and tuples, each tuple bound to a name (the zip keeps the tuple that it gave out). -/
namespace PL
open PySem PySem.Spec L2
open PyProof.Rows hiding St
open PySem (Draws)

/-- what is zipped: list or tuple, where, its items -/
abbrev Srcs := List (Bool × Addr × List Value)
section
variable {M : Model} {prog : Program} {w : World} {A : Around} {E : Value → Shared → Prop} {s : Shared}
/-- a for of the library's code, by an invariant; E may be left at any turn -/
theorem forIn_inv {α β : Type} {l : List α} {f : α → β → Sem (ForInStep β)} {Q : β → Shared → Prop} (Iv : Nat → β → Shared → Prop) {b : β}
    (hs : ∀ k x b s, l[k]? = some x → Iv k b s → wpAny M A (f x b) (fun r s' => ∃ b', r = .yield b' ∧ Iv (k + 1) b' s') E s) (h0 : Iv 0 b s) (hq : ∀ b s, Iv l.length b s → Q b s) : wpAny M A (forIn l b f) Q E s := by
  suffices h : ∀ (r : List α) (k : Nat) (b : β) (s : Shared), k + r.length = l.length → (∀ j, r[j]? = l[k + j]?) → Iv k b s → wpAny M A (forIn r b f) Q E s from h l 0 b s (by omega) (fun j => by rw [Nat.zero_add]) h0
  intro r
  induction r with
  | nil =>
    intro k b s e _ i
    rw [List.forIn_nil]
    have hk : k = l.length := by simpa using e
    subst hk
    exact wpAny_pure (hq b s i)
  | cons x r ih =>
    intro k b s e g i
    rw [List.forIn_cons]
    refine wpAny_bind (wpAny_mono (hs k x b s (by have := g 0; simpa using this.symm) i) (fun r' s' h => ?_) fun _ _ q => q)
    obtain ⟨b', rfl, i'⟩ := h
    exact ih (k + 1) b' s' (by simp at e; omega) (fun j => by have := g (j + 1); rw [show k + 1 + j = k + (j + 1) by omega, ← this]; simp) i'
/-- the sources' iterators at their turns -/
def SI (N : Nat) (S : Srcs) (p : Nat → Nat) (h : Heap) : Prop := ∀ (j : Nat) (b : Bool) (a : Addr) (its : List Value), S[j]? = some (b, a, its) → IsItr b h (N + j) a (p j) ∧ IsSq b h a its.toArray
/-- the zip itself, the tuple of its iterators, its own tuple -/
structure ZS (N : Nat) (S : Srcs) (v : Value) (f : Bool) (h : Heap) : Prop where
  z : h.get? (N + S.length + 2) = some { cls := .type "zip", dict := none, data := .fields #[v, .bool f, .bool false, .ref (N + S.length), .ref (N + S.length + 1)], slots := #[] }
  ti : ∃ n, h.get? (N + S.length) = some { cls := .type "tuple", data := .seq ((List.range S.length).map fun j => Value.ref (N + j)).toArray n }
  to : ∃ (ws : List Value) (n : Nat), ws.length = S.length ∧ h.get? (N + S.length + 1) = some { cls := .type "tuple", data := .seq ws.toArray n }
def Apart (N : Nat) (S : Srcs) : Prop := ∀ (j : Nat) (b : Bool) (a : Addr) (its : List Value), S[j]? = some (b, a, its) → a < N
theorem isSq_at {b : Bool} {h h' : Heap} {a : Addr} {its : Array Value} (x : IsSq b h a its) (k : ∀ o, h.get? a = some o → h'.get? a = some o) : IsSq b h' a its := by
  cases b with
  | true => exact Heap.IsList.at x k
  | false => exact Heap.IsTuple.at x k
/-- .. behind a change at an address that is none of theirs -/
theorem SI.other {N : Nat} {S : Srcs} {p : Nat → Nat} {h h' : Heap} (x : SI N S p h) (ap : Apart N S) {c : Nat} (hc : N + S.length ≤ c) (k : ∀ (b : Nat) o, b ≠ c → h.get? b = some o → h'.get? b = some o) : SI N S p h' := fun (j : Nat) (b : Bool) (a : Nat) its e => by
  obtain ⟨h1, h2⟩ := x j b a its e
  have hj : j < S.length := (List.getElem?_eq_some_iff.mp e).1
  have ha : a < N := ap j b a its e
  have n1 : N + j ≠ c := by omega
  have n2 : a ≠ c := by omega
  exact ⟨isItr_at h1 fun o q => k _ o n1 q, isSq_at h2 fun o q => k _ o n2 q⟩
/-- .. behind one turn of the j-th -/
theorem SI.turn {N : Nat} {S : Srcs} {p q : Nat → Nat} {h h' : Heap} (x : SI N S p h) (ap : Apart N S) {j : Nat} {b : Bool} {a : Addr} {its : List Value} (e : S[j]? = some (b, a, its)) (hit : IsItr b h' (N + j) a (q j)) (hq : ∀ i, i ≠ j → q i = p i) (k : ∀ (c : Nat) o, c ≠ N + j → h.get? c = some o → h'.get? c = some o) :
    SI N S q h' := fun (i : Nat) (b' : Bool) (a' : Nat) its' e' => by
  obtain ⟨h1, h2⟩ := x i b' a' its' e'
  have hi : i < S.length := (List.getElem?_eq_some_iff.mp e').1
  have ha : a' < N := ap i b' a' its' e'
  have n2 : a' ≠ N + j := by omega
  refine ⟨?_, isSq_at h2 fun o q => k _ o n2 q⟩
  by_cases hij : i = j
  · subst hij
    rw [e] at e'
    cases e'
    exact hit
  · have n1 : N + i ≠ N + j := by omega
    rw [hq i hij]
    exact isItr_at h1 fun o q => k _ o n1 q
theorem ZS.other {N : Nat} {S : Srcs} {v : Value} {f : Bool} {h h' : Heap} (x : ZS N S v f h) (k : ∀ b o, N + S.length ≤ b → h.get? b = some o → h'.get? b = some o) : ZS N S v f h' :=
  ⟨k _ _ (by omega) x.z, let ⟨n, q⟩ := x.ti; ⟨n, k _ _ (Nat.le_refl _) q⟩, let ⟨ws, n, l, q⟩ := x.to; ⟨ws, n, l, k _ _ (by omega) q⟩⟩
/-- what may have changed: the zip, its own tuple, the iterators -/
def ZK (N : Nat) (S : Srcs) (h h' : Heap) : Prop := ∀ c o, (c < N ∨ c = N + S.length ∨ N + S.length + 2 < c) → h.get? c = some o → h'.get? c = some o
theorem alive_any {a : Addr} {Q : Option Obj → Shared → Prop} (h : ∀ o, Q o s) : wpAny (model prog w) A (loadIfAlive a) Q E s := by
  have q : Q (s.heap.get? a) s := h _
  exact fun _ _ _ => q
/-- the zip asks if its tuple came back -/
theorem zip_free {N : Nat} {S : Srcs} {v : Value} {f : Bool} {Q : Bool → Shared → Prop} (hz : ZS N S v f s.heap) (hv : v = .none ∨ ∃ T : Nat, v = rawInt T)
    (h : ∀ c f' h', ZS N S v f' h' → (∀ b o, b ≠ N + S.length + 2 → s.heap.get? b = some o → h'.get? b = some o) → s.heap.objs.size = h'.objs.size → Q c { s with heap := h' }) : wpAny (model prog w) A (Builtin.SmallTypes.ownedTupleIsFree (.ref (N + S.length + 2))) Q E s := by
  unfold Builtin.SmallTypes.ownedTupleIsFree
  rcases hv with rfl | ⟨T, rfl⟩
  · refine wpAny_bind (wpAny_field hz.z rfl (x := .none) rfl ?_)
    exact wpAny_pure (h true f s.heap hz (fun _ _ _ e => e) rfl)
  · refine wpAny_bind (wpAny_field hz.z rfl (x := rawInt T) rfl ?_)
    show wpAny _ _ (loadIfAlive ((T : Int).toNat) >>= _) _ _ _
    refine wpAny_bind (alive_any fun o => ?_)
    cases o with
    | none =>
      simp only [Option.isNone_none, if_true]
      exact wpAny_pure (h true f s.heap hz (fun _ _ _ e => e) rfl)
    | some o =>
      simp only [Option.isNone_some, Bool.false_eq_true, if_false]
      refine wpAny_bind (wpAny_field hz.z rfl (x := .bool f) rfl ?_)
      cases f with
      | true =>
        rw [if_neg (by decide)]
        exact wpAny_pure (h false true s.heap hz (fun _ _ _ e => e) rfl)
      | false =>
        rw [if_pos (by decide)]
        refine wpAny_bind (wpAny_setField_rec hz.z (by simp) fun h1 hz1 hs1 => wpAny_pure ?_)
        refine h false true h1 ⟨hz1, ?_, ?_⟩ (fun b o hb e => hs1.extBut b o hb e) hs1.1.symm
        · obtain ⟨n, q⟩ := hz.ti
          exact ⟨n, hs1.extBut _ _ (by show N + S.length ≠ N + S.length + 2; omega) q⟩
        · obtain ⟨ws, n, l, q⟩ := hz.to
          exact ⟨ws, n, l, hs1.extBut _ _ (by show N + S.length + 1 ≠ N + S.length + 2; omega) q⟩
/-- the j-th item of each source that has been drawn so far -/
def Drew (S : Srcs) (i k : Nat) (xs : List Value) : Prop := xs.length = k ∧ ∀ (j : Nat) (b : Bool) (a : Addr) (its : List Value), j < k → S[j]? = some (b, a, its) → its[i]? = xs[j]? ∧ i < its.length
theorem Drew.snoc {S : Srcs} {i k : Nat} {xs : List Value} (d : Drew S i k xs) {b : Bool} {a : Addr} {its : List Value} {x : Value} (e : S[k]? = some (b, a, its)) (hx : its[i]? = some x) : Drew S i (k + 1) (xs ++ [x]) := by
  obtain ⟨l, d⟩ := d
  refine ⟨by simp [l], fun j b' a' its' hj e' => ?_⟩
  by_cases hjk : j < k
  · obtain ⟨q1, q2⟩ := d j b' a' its' hjk e'
    exact ⟨by rw [q1, List.getElem?_append_left (by omega)], q2⟩
  · have : j = k := by omega
    subst this
    rw [e] at e'
    cases e'
    refine ⟨?_, (List.getElem?_eq_some_iff.mp hx).1⟩
    rw [hx, List.getElem?_append_right (by omega), l]
    simp
theorem zipN_body {N : Nat} {S : Srcs} {i : Nat} {v : Value} {f : Bool} {Q : Fin → Shared → Prop} (hh : A.handled = none) (ap : Apart N S) (hn : 0 < S.length) (hsz : S.length ≤ sizeLine) (hz : ZS N S v f s.heap) (hv : v = .none ∨ ∃ T : Nat, v = rawInt T) (hi : SI N S (fun _ => i) s.heap) (hlt : N + S.length + 2 < s.heap.objs.size)
    (hle : ∀ (j : Nat) (b : Bool) (a : Addr) (its : List Value), S[j]? = some (b, a, its) → i ≤ its.length)
    (hQ : ∀ xs h' tk v' f', Drew S i S.length xs → ZS N S v' f' h' → (v' = .none ∨ ∃ T : Nat, v' = rawInt T) → SI N S (fun _ => i + 1) h' → h'.get? s.heap.objs.size = some { cls := .type "tuple", data := .seq xs.toArray } →
      (∀ c o, (c < N ∨ N + S.length + 2 < c) → s.heap.get? c = some o → h'.get? c = some o) → Q (.done (.ret (.ref s.heap.objs.size))) { s with heap := h', toks := tk })
    (hE : (∃ (j : Nat) (b : Bool) (a : Addr) (its : List Value), S[j]? = some (b, a, its) ∧ i = its.length) → ∀ h' tk e, (∀ c o, (c < N ∨ N + S.length + 2 < c) → s.heap.get? c = some o → h'.get? c = some o) → (∃ o, h'.get? e = some o ∧ o.cls = .type "StopIteration") → E (.ref e) { s with heap := h', toks := tk }) :
    wpAny (model prog w) A (Builtin.«zip.__next__» ⟨[.ref (N + S.length + 2)], []⟩) Q E s := by
  obtain ⟨hp, g, d, tk0, os⟩ := s
  obtain ⟨nti, hti⟩ := hz.ti
  show wpAny _ _ (field (.ref (N + S.length + 2)) 2 >>= _) _ _ _
  refine wpAny_bind (wpAny_field hz.z rfl (x := .bool false) rfl ?_)
  show wpAny _ _ (field (.ref (N + S.length + 2)) 3 >>= _) _ _ _
  refine wpAny_bind (wpAny_field hz.z rfl (x := .ref (N + S.length)) rfl ?_)
  refine wpAny_bind (wpAny_seqItems hti rfl ?_)
  have ne : (((List.range S.length).map fun j => Value.ref (N + j)).toArray).isEmpty = false := by
    cases S with
    | nil => simp at hn
    | cons a b => simp [Array.isEmpty]
  simp only [ne, Bool.false_eq_true, if_false]
  refine wpAny_bind (zip_free (s := ⟨hp, g, d, tk0, os⟩) hz hv fun c f1 h1 hz1 k1 sz1 => ?_)
  have hi1 : SI N S (fun _ => i) h1 := hi.other ap (c := N + S.length + 2) (by omega) k1
  have turn : ∀ {j : Nat} {b : Bool} {a : Addr} {its : List Value} {h2 : Heap} {tk : Nat} {p : Nat → Nat} {R : Option Value → Shared → Prop} {E2 : Value → Shared → Prop}, S[j]? = some (b, a, its) → SI N S p h2 → p j = i →
      (∀ x h3 tk', its[i]? = some x → SI N S (fun m => if m = j then i + 1 else p m) h3 → (∀ (c : Nat) o, c ≠ N + j → h2.get? c = some o → h3.get? c = some o) → h3.objs.size = h2.objs.size → R (some x) ⟨h3, g, d, tk', os⟩) →
      (i = its.length → ∀ h3 e, (∀ (c : Nat) o, c ≠ N + j → h2.get? c = some o → h3.get? c = some o) → (∃ o, h3.get? e = some o ∧ o.cls = .type "StopIteration") → E2 (.ref e) ⟨h3, g, d, tk, os⟩) →
      wpAny (model prog w) A (Builtin.SmallTypes.nextOf (.ref (N + j)) >>= fun r => pure (some r)) R E2 ⟨h2, g, d, tk, os⟩ := fun {j b a its h2 tk p R E2} e si pj hr he => by
    obtain ⟨q1, q2⟩ := si j b a its e
    have ha : (a : Nat) < N := ap j b a its e
    have D := draws_sq (prog := prog) (w := w) (A := A) b hh (N + j) a (Nat.ne_of_lt (Nat.lt_of_lt_of_le ha (Nat.le_add_right N j))) its.toArray
    rw [pj] at q1
    have hl := hle j b a its e
    by_cases hi2 : i < its.length
    · refine wpAny_bind (D.item i _ _ _ (by simpa using hi2) ⟨q1, q2⟩ fun x h3 tk' hx st sb => wpAny_pure ?_)
      have k3 : ∀ (c : Nat) o, c ≠ N + j → h2.get? c = some o → h3.get? c = some o := fun c o n q => Heap.SameBut.extBut sb c o n q
      exact hr x h3 tk' (by simpa using hx) (si.turn ap e (by simpa using st.1) (fun m hm => by simp [hm]) k3) k3 sb.1
    · have hi3 : i = its.length := by omega
      refine wpAny_bind (D.done _ _ _ (by rw [show its.toArray.size = i by simp [hi3]]; exact ⟨q1, q2⟩) fun h3 e' k3 o => ?_)
      exact he hi3 h3 e' (fun c o n q => k3 c o n q) o
  cases c with
  | false =>
    simp only [Bool.false_eq_true, if_false]
    refine wpAny_bind ?_
    rw [← Array.forIn_toList]
    refine forIn_inv (fun k st s' => ∃ xs h2 tk, st = (none, xs.toArray) ∧ s' = ⟨h2, g, d, tk, os⟩ ∧ Drew S i k xs ∧ SI N S (fun m => if m < k then i + 1 else i) h2 ∧ ZS N S v f1 h2 ∧ (∀ (c : Nat) o, (c < N ∨ N + S.length ≤ c) → h1.get? c = some o → h2.get? c = some o) ∧ h2.objs.size = h1.objs.size)
      (fun k x st s' hx ⟨xs, h2, tk, e1, e2, dr, si, zs, kk, sz⟩ => ?_) ⟨[], h1, tk0, rfl, rfl, ⟨rfl, fun j b a its hj => by omega⟩, by simpa using hi1, hz1, fun _ _ _ q => q, rfl⟩ (fun st s' ⟨xs, h2, tk, e1, e2, dr, si, zs, kk, sz⟩ => ?_)
    · subst e1 e2
      have hk : k < S.length := by
        have := (List.getElem?_eq_some_iff.mp hx).1
        simpa using this
      have hx : x = .ref (N + k) := by
        rw [show (((List.range S.length).map fun j => Value.ref (N + j)).toArray.toList) = (List.range S.length).map fun j => Value.ref (N + j) from rfl, List.getElem?_map, List.getElem?_range hk] at hx
        cases hx
        rfl
      subst hx
      obtain ⟨b, a, its, e⟩ : ∃ b a its, S[k]? = some (b, a, its) := ⟨_, _, _, List.getElem?_eq_getElem hk⟩
      refine wpAny_bind (wpAny_holding ?_)
      show wpAny _ _ (Builtin.SmallTypes.nextOf (.ref (N + k)) >>= fun r => pure (some r)) _ _ _
      refine turn e si (by simp) (fun y h3 tk' hy si3 k3 sz3 => ?_) fun hend h3 e' k3 he' => ?_
      · refine wpAny_pure ⟨_, rfl, xs ++ [y], h3, tk', by simp, rfl, dr.snoc e hy, ?_, zs.other fun b o hb q => k3 b o (by omega) q, fun c o hc q => k3 c o (by omega) (kk c o hc q), sz3.trans sz⟩
        have : (fun m => if m = k then i + 1 else if m < k then i + 1 else i) = fun m => if m < k + 1 then i + 1 else i := by
          funext m
          by_cases h1 : m = k
          · simp [h1]
          · by_cases h2 : m < k
            · simp [h1, h2, show m < k + 1 by omega]
            · simp [h1, h2, show ¬ m < k + 1 by omega]
        rw [← this]
        exact si3
      · exact hE ⟨k, b, a, its, e, hend⟩ h3 tk e' (fun c o hc q => k3 c o (by omega) (kk c o (by omega) (k1 c o (by omega) q))) he'
    · subst e1 e2
      have lx : xs.length = S.length := by simpa using dr.1
      have szA : h2.objs.size = hp.objs.size := by rw [sz, ← sz1]
      refine wpAny_bind (wpAny_newTuple ?_ (by show xs.length ≤ sizeLine; omega))
      refine wpAny_pure ?_
      have pk : ∀ (c : Nat) o, h2.get? c = some o → (h2.push { cls := .type "tuple", data := .seq xs.toArray }).get? c = some o := fun c o q => Heap.get?_push_of_some _ q
      have dr' : Drew S i S.length xs := by simpa using dr
      have si' : SI N S (fun _ => i + 1) h2 := fun j b a its e => by
        have hj : j < S.length := (List.getElem?_eq_some_iff.mp e).1
        have := si j b a its e
        simpa [hj] using this
      have fin := hQ xs (h2.push { cls := .type "tuple", data := .seq xs.toArray }) tk v f1 dr' (zs.other fun b o _ q => pk b o q) hv (fun j b a its e => ⟨isItr_at (si' j b a its e).1 fun o q => pk _ o q, isSq_at (si' j b a its e).2 fun o q => pk _ o q⟩)
        (by have := Heap.get?_push_size h2 (o := { cls := .type "tuple", data := .seq xs.toArray }) rfl; rw [szA] at this; exact this) (fun c o hc q => pk c o (kk c o (by omega) (k1 c o (by omega) q)))
      show Q (.done (.ret (.ref h2.objs.size))) _
      rw [szA]
      exact fin
  | true =>
    simp only [if_true]
    refine wpAny_bind (wpAny_rule ?_)
    obtain ⟨ws, nto, lto, hto⟩ := hz1.to
    refine wpAny_bind (wpAny_field hz1.z rfl (x := .ref (N + S.length + 1)) rfl ?_)
    refine wpAny_bind (wpAny_setField_rec (s := ⟨h1, g, d, tk0, os⟩) hz1.z (by simp) fun h2 hz2 hs2 => ?_)
    refine wpAny_bind ?_
    have hto2 : h2.get? (N + S.length + 1) = some { cls := .type "tuple", data := .seq ws.toArray nto } := hs2.extBut _ _ (by show N + S.length + 1 ≠ N + S.length + 2; omega) hto
    have hi2 : SI N S (fun _ => i) h2 := hi1.other ap (c := N + S.length + 2) (by omega) fun b o n q => hs2.extBut b o n q
    refine forIn_inv (fun k st s' => ∃ xs ys h3 tk, st = (none, ()) ∧ s' = ⟨h3, g, d, tk, os⟩ ∧ Drew S i k xs ∧ SI N S (fun m => if m < k then i + 1 else i) h3 ∧ k + ys.length = S.length ∧ h3.get? (N + S.length + 1) = some { cls := .type "tuple", data := .seq (xs ++ ys).toArray nto } ∧
        h3.get? (N + S.length + 2) = some { cls := .type "zip", dict := none, data := .fields #[.ellipsis, .bool f1, .bool false, .ref (N + S.length), .ref (N + S.length + 1)], slots := #[] } ∧ (∀ (c : Nat) o, (c < N ∨ c = N + S.length ∨ N + S.length + 2 < c) → h1.get? c = some o → h3.get? c = some o) ∧ h3.objs.size = h1.objs.size)
      (fun k x st s' hx ⟨xs, ys, h3, tk, e1, e2, dr, si, ly, to3, z3, kk, sz⟩ => ?_)
      ⟨[], ws, h2, tk0, rfl, rfl, ⟨rfl, fun j b a its hj => by omega⟩, by simpa using hi2, by omega, hto2, hz2, fun c o hc q => hs2.extBut c o (by show (c : Nat) ≠ N + S.length + 2; omega) q, hs2.1⟩
      (fun st s' ⟨xs, ys, h3, tk, e1, e2, dr, si, ly, to3, z3, kk, sz⟩ => ?_)
    · subst e1 e2
      have hk : k < S.length := by
        have := (List.getElem?_eq_some_iff.mp hx).1
        simpa using this
      have hx : x = (.ref (N + k), k) := by
        rw [List.getElem?_zipIdx, List.getElem?_map, List.getElem?_range hk] at hx
        simp at hx
        exact hx.symm
      subst hx
      obtain ⟨b, a, its, e⟩ : ∃ b a its, S[k]? = some (b, a, its) := ⟨_, _, _, List.getElem?_eq_getElem hk⟩
      refine wpAny_bind (wpAny_onRaise ?_)
      show wpAny _ _ (Builtin.SmallTypes.nextOf (.ref (N + k)) >>= fun r => pure (some r)) _ _ _
      refine turn e si (by simp) (fun y h4 tk' hy si4 k4 sz4 => ?_) fun hend h4 e' k4 he' => ?_
      · have to4 := k4 (N + S.length + 1) _ (by omega) to3
        refine wpAny_bind (wpAny_seqItems (s := ⟨h4, g, d, tk', os⟩) to4 rfl ?_)
        have lxy : (xs ++ ys).length = S.length := by rw [List.length_append, dr.1]; omega
        refine wpAny_bind (wpAny_updateSeq (s := ⟨h4, g, d, tk', os⟩) to4 rfl ?_ (by rw [List.size_toArray, lxy]; exact hsz) (by rw [Array.size_setIfInBounds, List.size_toArray, lxy]; omega))
        refine wpAny_bind (wpAny_letGo (wpAny_pure ⟨_, rfl, xs ++ [y], ys.tail, h4.update (N + S.length + 1) (Obj.mapSeq (·.setIfInBounds k y)), tk', rfl, rfl, dr.snoc e hy, ?_, ?_, ?_, ?_, ?_, ?_⟩))
        · have p : (fun m => if m = k then i + 1 else if m < k then i + 1 else i) = fun m => if m < k + 1 then i + 1 else i := by
            funext m
            by_cases g1 : m = k
            · simp [g1]
            · by_cases g2 : m < k
              · simp [g1, g2, show m < k + 1 by omega]
              · simp [g1, g2, show ¬ m < k + 1 by omega]
          rw [← p]
          exact si4.other ap (c := N + S.length + 1) (by omega) fun b o n q => (Heap.get?_update_other _ _ (Ne.symm n)).trans q
        · rw [List.length_tail]; omega
        · rw [Heap.get?_update_self _ to4 rfl]
          cases ys with
          | nil => simp at ly; omega
          | cons y0 ys =>
            have lk : xs.length = k := dr.1
            simp [Obj.mapSeq, ← lk]
        · exact (Heap.get?_update_other _ _ (show N + S.length + 1 ≠ N + S.length + 2 by omega)).trans (k4 _ _ (by omega) z3)
        · exact fun c o hc q => (Heap.get?_update_other _ _ (show N + S.length + 1 ≠ c by omega)).trans (k4 c o (by omega) (kk c o hc q))
        · rw [Heap.size_update]; exact sz4.trans sz
      · have z4 := k4 (N + S.length + 2) _ (by omega) z3
        obtain ⟨oe, hoe, hce⟩ := he'
        refine wpAny_setField_rec (s := ⟨h4, g, d, tk, os⟩) z4 (by simp) fun h5 hz5 hs5 => ?_
        have ne : e' ≠ N + S.length + 2 := fun q => by
          subst q
          rw [z4] at hoe
          cases hoe
          simp at hce
        exact hE ⟨k, b, a, its, e, hend⟩ h5 tk e' (fun c o hc q => hs5.extBut c o (by show (c : Nat) ≠ N + S.length + 2; omega) (k4 c o (by omega) (kk c o (by omega) (k1 c o (by omega) q)))) ⟨oe, hs5.extBut _ _ ne hoe, hce⟩
    · subst e1 e2
      have lx : xs.length = S.length := by simpa using dr.1
      have ly : ys = [] := by simpa using ly
      subst ly
      rw [List.append_nil] at to3
      have szA : h3.objs.size = hp.objs.size := by rw [sz, ← sz1]
      refine wpAny_bind (wpAny_seqItems (s := ⟨h3, g, d, tk, os⟩) to3 rfl ?_)
      refine wpAny_bind (wpAny_newTuple ?_ (by show xs.length ≤ sizeLine; omega))
      have z4 : (h3.push { cls := .type "tuple", data := .seq xs.toArray }).get? (N + S.length + 2) = _ := Heap.get?_push_of_some _ z3
      show wpAny _ _ (Builtin.SmallTypes.ownedTupleHandOut (.ref (N + S.length + 2)) (.ref h3.objs.size) >>= _) _ _ ⟨h3.push { cls := .type "tuple", data := .seq xs.toArray }, g, d, tk, os⟩
      refine wpAny_bind ?_
      unfold Builtin.SmallTypes.ownedTupleHandOut
      refine wpAny_bind (wpAny_setField_rec z4 (by simp) fun h5 hz5 hs5 => ?_)
      refine wpAny_setField_rec hz5 (by simp) fun h6 hz6 hs6 => ?_
      refine wpAny_pure ?_
      have up : ∀ (c : Nat) o, c ≠ N + S.length + 2 → h3.get? c = some o → h6.get? c = some o := fun c o n q => hs6.extBut c o n (hs5.extBut c o n (Heap.get?_push_of_some _ q))
      have dr' : Drew S i S.length xs := by simpa using dr
      have si' : SI N S (fun _ => i + 1) h6 := by
        have a1 : SI N S (fun _ => i + 1) h3 := fun j b a its e => by
          have hj : j < S.length := (List.getElem?_eq_some_iff.mp e).1
          have := si j b a its e
          simpa [hj] using this
        exact a1.other ap (c := N + S.length + 2) (by omega) up
      have tup : h6.get? hp.objs.size = some { cls := .type "tuple", data := .seq xs.toArray } := by
        have q := Heap.get?_push_size h3 (o := { cls := .type "tuple", data := .seq xs.toArray }) rfl
        rw [szA] at q
        have n : (hp.objs.size : Nat) ≠ N + S.length + 2 := by
          have hlt : N + S.length + 2 < hp.objs.size := hlt
          omega
        exact hs6.extBut _ _ n (hs5.extBut _ _ n q)
      have fin := hQ xs h6 tk (rawInt h3.objs.size) false dr' ⟨hz6, ?_, ⟨xs, nto, lx, up _ _ (by omega) to3⟩⟩ (.inr ⟨h3.objs.size, rfl⟩) si' tup fun c o hc q => up c o (by omega) (kk c o (by omega) (k1 c o (by omega) q))
      · show Q (.done (.ret (.ref h3.objs.size))) _
        rw [szA]
        exact fin
      · obtain ⟨n, q⟩ := hz1.ti
        exact ⟨n, up _ _ (by omega) (kk _ _ (by omega) q)⟩
theorem zipN_type {N : Nat} {S : Srcs} {v : Value} {f : Bool} (hz : ZS N S v f s.heap) : s.TypeIs (.ref (N + S.length + 2)) "zip" := ⟨_, hz.z, rfl⟩
/-- 'next' of the zip: a new tuple, or its end -/
theorem zipN_next {N : Nat} {S : Srcs} {i : Nat} {v : Value} {f : Bool} {Q : Option Value → Shared → Prop} (hh : A.in1.handled = none) (ap : Apart N S) (hn : 0 < S.length) (hsz : S.length ≤ sizeLine) (hz : ZS N S v f s.heap) (hv : v = .none ∨ ∃ T : Nat, v = rawInt T) (hi : SI N S (fun _ => i) s.heap) (hlt : N + S.length + 2 < s.heap.objs.size)
    (hle : ∀ (j : Nat) (b : Bool) (a : Addr) (its : List Value), S[j]? = some (b, a, its) → i ≤ its.length)
    (hQ : ∀ xs h' tk v' f', Drew S i S.length xs → ZS N S v' f' h' → (v' = .none ∨ ∃ T : Nat, v' = rawInt T) → SI N S (fun _ => i + 1) h' → h'.get? s.heap.objs.size = some { cls := .type "tuple", data := .seq xs.toArray } →
      (∀ c o, (c < N ∨ N + S.length + 2 < c) → s.heap.get? c = some o → h'.get? c = some o) → Q (some (.ref s.heap.objs.size)) { s with heap := h', toks := tk })
    (hE : (∃ (j : Nat) (b : Bool) (a : Addr) (its : List Value), S[j]? = some (b, a, its) ∧ i = its.length) → ∀ h' tk, (∀ c o, (c < N ∨ N + S.length + 2 < c) → s.heap.get? c = some o → h'.get? c = some o) → Q none { s with heap := h', toks := tk }) :
    wpAny (model prog w) A (pyNext (.ref (N + S.length + 2))) Q E s := by
  have ty := zipN_type hz
  unfold pyNext
  refine wpAny_bind (wpAny_attempt ?_)
  refine wpAny_callSpecial?_slot (name := Str.ofString "__next__") ty F.slot_zip_next ?_
  refine wpAny_call_entry F.slot_zip_next ty F.entry_zip_next (zipN_body hh ap hn hsz hz hv hi hlt hle (fun xs h' tk v' f' d z hv' si t k => ⟨_, rfl, ?_⟩) fun he h' tk e k ho => ?_) (F.args_zip_next_1 _)
  · exact wpAny_pure (hQ xs h' tk v' f' d z hv' si t k)
  · obtain ⟨o, ho, hc⟩ := ho
    refine wpAny_bind (wpAny_isInstance (T := "StopIteration") (b := true) ⟨o, ho, hc⟩ isSubtype_stop ?_)
    exact wpAny_pure (hE he h' tk k)
theorem zipN_nextZ {z : Nat} {N : Nat} {S : Srcs} {i : Nat} {v : Value} {f : Bool} {Q : Option Value → Shared → Prop} (ez : z = N + S.length + 2) (hh : A.in1.handled = none) (ap : Apart N S) (hn : 0 < S.length) (hsz : S.length ≤ sizeLine) (hz : ZS N S v f s.heap) (hv : v = .none ∨ ∃ T : Nat, v = rawInt T) (hi : SI N S (fun _ => i) s.heap)
    (hle : ∀ (j : Nat) (b : Bool) (a : Addr) (its : List Value), S[j]? = some (b, a, its) → i ≤ its.length)
    (hQ : ∀ xs h' tk v' f', Drew S i S.length xs → ZS N S v' f' h' → (v' = .none ∨ ∃ T : Nat, v' = rawInt T) → SI N S (fun _ => i + 1) h' → h'.get? s.heap.objs.size = some { cls := .type "tuple", data := .seq xs.toArray } →
      (∀ c o, (c < N ∨ z < c) → s.heap.get? c = some o → h'.get? c = some o) → Q (some (.ref s.heap.objs.size)) { s with heap := h', toks := tk })
    (hE : (∃ (j : Nat) (b : Bool) (a : Addr) (its : List Value), S[j]? = some (b, a, its) ∧ i = its.length) → ∀ h' tk, (∀ c o, (c < N ∨ z < c) → s.heap.get? c = some o → h'.get? c = some o) → Q none { s with heap := h', toks := tk }) :
    wpAny (model prog w) A (pyNext (.ref z)) Q E s := by
  subst ez
  exact zipN_next hh ap hn hsz hz hv hi (Heap.lt_size hz.z) hle hQ hE
end
/-- the zip of sources that stay as they are, each tuple to a name -/
def plainTg : Expr → Bool
  | .Tuple _ _ _ => false
  | .List _ _ => false
  | _ => true
theorem letGo_plain {prog : Program} {w : World} {A : Around} {E : Value → Shared → Prop} {s : Shared} {tg : Expr} {it v : Value} {Q : Unit → Shared → Prop} (h : plainTg tg = true) (q : Q () s) : wpAny (model prog w) A (letOwnedTupleGo tg it v) Q E s := by
  unfold letOwnedTupleGo
  cases tg <;> first | exact wpAny_pure q | cases h
/-- the sources as the tracked heap has them -/
def SB (K : PySem.W.Frag) (L : List (Bool × Addr × List V)) (H : Hp) : Prop := ∀ (j : Nat) b a xs, L[j]? = some (b, a, xs) → SqB K b H a xs
def minLen : List (Bool × Addr × List V) → Nat
  | [] => 0
  | [x] => x.2.2.length
  | x :: r => min x.2.2.length (minLen r)
theorem minLen_le : ∀ {L : List (Bool × Addr × List V)} {j : Nat} {x : Bool × Addr × List V}, L[j]? = some x → minLen L ≤ x.2.2.length
  | [], j, x, h => by simp at h
  | [y], 0, x, h => by simp at h; subst h; exact Nat.le_refl _
  | [y], j + 1, x, h => by simp at h
  | y :: z :: r, 0, x, h => by simp at h; subst h; exact Nat.min_le_left _ _
  | y :: z :: r, j + 1, x, h => Nat.le_trans (Nat.min_le_right _ _) (minLen_le (L := z :: r) (j := j) (by simpa using h))
theorem minLen_at : ∀ {L : List (Bool × Addr × List V)}, L ≠ [] → ∃ (j : Nat) (x : Bool × Addr × List V), L[j]? = some x ∧ minLen L = x.2.2.length
  | [], h => absurd rfl h
  | [y], _ => ⟨0, y, rfl, rfl⟩
  | y :: z :: r, _ => by
    by_cases h : y.2.2.length ≤ minLen (z :: r)
    · exact ⟨0, y, rfl, Nat.min_eq_left h⟩
    · obtain ⟨j, x, e, l⟩ := minLen_at (L := z :: r) (by simp)
      exact ⟨j + 1, x, by simpa using e, by show min _ _ = _; rw [Nat.min_eq_right (by omega)]; exact l⟩
/-- the library's sources of the tracked ones -/
theorem srcs_of {X : Cx} {pins : List (Addr × Obj)} {σ : L2.St} {H : Hp} {s : Shared} (I : Inv X pins σ H s) : ∀ {L : List (Bool × Addr × List V)}, SB X.K L H → ∃ S : Srcs, S.length = L.length ∧ ∀ (j : Nat) b a xs, L[j]? = some (b, a, xs) → ∃ its, S[j]? = some (b, a, its) ∧ Vals xs its ∧ IsSq b s.heap a its.toArray
  | [], _ => ⟨[], rfl, fun j b a xs e => by simp at e⟩
  | (b, a, xs) :: L, h => by
    obtain ⟨S, l, g⟩ := srcs_of I (L := L) fun j b' a' xs' e => h (j + 1) b' a' xs' (by simpa using e)
    obtain ⟨its, rv, p⟩ := sqB I (h 0 b a xs rfl)
    refine ⟨(b, a, its) :: S, by simp [l], fun j b' a' xs' e => ?_⟩
    cases j with
    | zero =>
      simp at e
      obtain ⟨rfl, rfl, rfl⟩ := e
      exact ⟨its, rfl, rv, p⟩
    | succ j =>
      obtain ⟨its', e', r⟩ := g j b' a' xs' (by simpa using e)
      exact ⟨its', by simpa using e', r⟩
theorem ZS.congr {N : Nat} {S S' : Srcs} {v : Value} {f : Bool} {h : Heap} (x : ZS N S v f h) (e : S.length = S'.length) : ZS N S' v f h := by
  obtain ⟨a, b, c⟩ := x
  refine ⟨?_, ?_, ?_⟩
  · rw [← e]; exact a
  · rw [← e]; exact b
  · rw [← e]; exact c
theorem vals_get : ∀ {vs : List V} {us : List Value}, vs.length = us.length → (∀ (j : Nat) v u, vs[j]? = some v → us[j]? = some u → RelV v u) → Vals vs us
  | [], [], _, _ => .nil
  | [], _ :: _, l, _ => by simp at l
  | _ :: _, [], l, _ => by simp at l
  | v :: vs, u :: us, l, h => .cons (h 0 v u rfl rfl) (vals_get (by simpa using l) fun j v' u' a b => h (j + 1) v' u' (by simpa using a) (by simpa using b))
def dumS (L : List (Bool × Addr × List V)) : Srcs := L.map fun x => (x.1, x.2.1, [])
theorem dumS_len (L : List (Bool × Addr × List V)) : (dumS L).length = L.length := by simp [dumS]
theorem turn_Z {P : Program} {w : World} {K : PySem.W.Frag} {tg : Expr} {N : Nat} {L : List (Bool × Addr × List V)} (hp : plainTg tg = true) (hL : L ≠ []) (hsz : L.length ≤ sizeLine) (ap : ∀ (j : Nat) b a xs, L[j]? = some (b, a, xs) → (a : Nat) < N)
    (self : ∀ (A : Around) (s : Shared) (Q : Value → Shared → Prop) (E : Value → Shared → Prop) (v : Value) (f : Bool), ZS N (dumS L) v f s.heap → Q (.ref (N + L.length + 2)) s → wpAny (model P w) A (pyIter (.ref (N + L.length + 2))) Q E s) :
    Turn P w K tg (ItW (SB K L) (minLen L) fun i => L.map fun x => x.2.2.getD i .non) ((List.range (L.length + 3)).map (N + ·)) (N + L.length + 2)
      (fun i h => ∃ v f, (v = .none ∨ ∃ T : Nat, v = rawInt T) ∧ ZS N (dumS L) v f h ∧ ∀ (j : Nat) b a xs, L[j]? = some (b, a, xs) → IsItr b h (N + j) a i) := by
  have memfp : ∀ c : Nat, c ∈ (List.range (L.length + 3)).map (N + ·) ↔ N ≤ c ∧ c ≤ N + L.length + 2 := fun c => by
    rw [List.mem_map]
    constructor
    · rintro ⟨m, hm, rfl⟩
      have := List.mem_range.mp hm
      omega
    · intro h
      exact ⟨c - N, List.mem_range.mpr (by omega), by omega⟩
  have look : ∀ {X : Cx} {pins : List (Addr × Obj)} {s : Shared} {σ : L2.St} {H : Hp} {i : Nat} {v : Value} {f : Bool}, Inv X pins σ H s → X.K = K → SB K L H → i ≤ minLen L → ZS N (dumS L) v f s.heap → (∀ (j : Nat) b a xs, L[j]? = some (b, a, xs) → IsItr b s.heap (N + j) a i) →
      ∃ S : Srcs, S.length = L.length ∧ Apart N S ∧ ZS N S v f s.heap ∧ SI N S (fun _ => i) s.heap ∧ N + S.length + 2 < s.heap.objs.size ∧ (∀ (j : Nat) (b : Bool) (a : Addr) (its : List Value), S[j]? = some (b, a, its) → ∃ xs, L[j]? = some (b, a, xs) ∧ Vals xs its) := fun {X pins s σ H i v f} I hK sb hi zs it => by
    subst hK
    obtain ⟨S, l, g⟩ := srcs_of I sb
    have back : ∀ (j : Nat) (b : Bool) (a : Addr) (its : List Value), S[j]? = some (b, a, its) → ∃ xs, L[j]? = some (b, a, xs) ∧ Vals xs its ∧ IsSq b s.heap a its.toArray := fun j b a its e => by
      have hj : j < L.length := by rw [← l]; exact (List.getElem?_eq_some_iff.mp e).1
      obtain ⟨b', a', xs', e'⟩ : ∃ b a xs, L[j]? = some (b, a, xs) := ⟨_, _, _, List.getElem?_eq_getElem hj⟩
      obtain ⟨its', e2, r, q⟩ := g j b' a' xs' e'
      rw [e] at e2
      cases e2
      exact ⟨xs', e', r, q⟩
    have zs2 := zs.congr (S' := S) (by rw [dumS_len, l])
    refine ⟨S, l, fun j b a its e => ?_, zs2, fun j b a its e => ?_, Heap.lt_size zs2.z, fun j b a its e => ?_⟩
    · obtain ⟨xs, e2, _⟩ := back j b a its e
      exact ap j b a xs e2
    · obtain ⟨xs, e2, _, q⟩ := back j b a its e
      exact ⟨it j b a xs e2, q⟩
    · obtain ⟨xs, e2, r, _⟩ := back j b a its e
      exact ⟨xs, e2, r⟩
  refine ⟨(memfp _).mpr (by omega), fun i h st b hb => ?_, fun i h h' st k => ?_, ?_, ?_, fun A i s Q E st h => ?_⟩
  · obtain ⟨v, f, _, zs, it⟩ := st
    have hb := (memfp b).mp hb
    have dl := dumS_len L
    obtain ⟨b, rfl⟩ : ∃ c : Nat, c = b := ⟨b, rfl⟩
    by_cases h1 : b < N + L.length
    · obtain ⟨b', a', xs', e'⟩ : ∃ b1 a xs, L[b - N]? = some (b1, a, xs) := ⟨_, _, _, List.getElem?_eq_getElem (show b - N < L.length by omega)⟩
      have := isItr_obj (it (b - N) b' a' xs' e')
      rw [show N + (b - N) = b by omega] at this
      exact this
    · by_cases h2 : b = N + L.length
      · subst h2
        obtain ⟨n, q⟩ := zs.ti
        rw [dl] at q
        exact ⟨_, q, fun v q => nomatch q⟩
      · by_cases h3 : b = N + L.length + 1
        · subst h3
          obtain ⟨ws, n, _, q⟩ := zs.to
          rw [dl] at q
          exact ⟨_, q, fun v q => nomatch q⟩
        · have h4 : b = N + L.length + 2 := by omega
          subst h4
          have q := zs.z
          rw [dl] at q
          exact ⟨_, q, fun v q => nomatch q⟩
  · obtain ⟨v, f, hv, zs, it⟩ := st
    have dl := dumS_len L
    refine ⟨v, f, hv, ⟨k _ ((memfp _).mpr (by rw [dl]; omega)) _ zs.z, ?_, ?_⟩, fun j b a xs e => isItr_at (it j b a xs e) fun o q => k _ ((memfp _).mpr ?_) o q⟩
    · obtain ⟨n, q⟩ := zs.ti
      exact ⟨n, k _ ((memfp _).mpr (by rw [dl]; omega)) _ q⟩
    · obtain ⟨ws, n, l, q⟩ := zs.to
      exact ⟨ws, n, l, k _ ((memfp _).mpr (by rw [dl]; omega)) _ q⟩
    · have : j < L.length := (List.getElem?_eq_some_iff.mp e).1
      omega
  · intro X hP hw hK hc i pins s σ H E I hf st hg
    obtain ⟨hi, hg⟩ := hg
    obtain ⟨v, f, hv, zs, it⟩ := st
    obtain ⟨S, l, apS, zsS, si, hlt, back⟩ := look I hK hg (Nat.le_of_lt hi) zs it
    subst hP hw hK
    have lenOk : ∀ (j : Nat) (b : Bool) (a : Addr) (its : List Value), S[j]? = some (b, a, its) → i < its.length := fun j b a its e => by
      obtain ⟨xs, e2, r⟩ := back j b a its e
      have : minLen L ≤ xs.length := minLen_le e2
      rw [← r.length]
      omega
    refine zipN_nextZ (by rw [l]) (I.ok.hd hc) apS (by rw [l]; exact List.length_pos_iff.mpr hL) (by rw [l]; exact hsz) zsS hv si (fun j b a its e => Nat.le_of_lt (lenOk j b a its e)) (fun xs h' tk v' f' d z hv' si' t k => ⟨.ref s.heap.objs.size, rfl, letGo_plain hp ?_⟩) fun ⟨j, b, a, its, e, hend⟩ => absurd (lenOk j b a its e) (by omega)
    have rel : Vals (L.map fun x => x.2.2.getD i .non) xs := vals_get (by rw [List.length_map, d.1, l]) fun j v u e1 e2 => by
      have hj : j < L.length := by
        have := (List.getElem?_eq_some_iff.mp e1).1
        simpa using this
      obtain ⟨b, a, its, e3⟩ : ∃ b a its, S[j]? = some (b, a, its) := ⟨_, _, _, List.getElem?_eq_getElem (show j < S.length by rw [l]; exact hj)⟩
      obtain ⟨ws, e4, r⟩ := back j b a its e3
      rw [List.getElem?_map, e4] at e1
      cases e1
      have q := (d.2 j b a its (by rw [l]; exact hj) e3).1
      rw [e2] at q
      exact val_get r (by simpa using q)
    have new : ObjOk X.prog X.w (upd H s.heap.objs.size (.tup (L.map fun x => x.2.2.getD i .non))) h' s.heap.objs.size (.tup (L.map fun x => x.2.2.getD i .non)) := ⟨by rw [List.length_map]; exact hsz, xs, rel, ⟨_, t, rfl, _, rfl⟩⟩
    have I1 : Inv X pins σ (upd H s.heap.objs.size (.tup (L.map fun x => x.2.2.getD i .non))) { s with heap := h', toks := tk } :=
      I.turnedNew (ch := (List.range (L.length + 3)).map (N + ·)) (fun b o hb e => k b o (by
        have : ¬ ((N : Nat) ≤ b ∧ b ≤ N + L.length + 2) := fun q => hb ((memfp b).mpr q)
        by_cases z : (b : Nat) < N
        · exact .inl z
        · exact .inr (Nat.lt_of_not_le fun z2 => this ⟨Nat.le_of_not_lt z, z2⟩)) e) hf (Nat.le_refl _) new
    refine ⟨.ref s.heap.objs.size, _, I1, rfl, ⟨_, rfl, I.hok.fresh (Nat.le_refl _), rfl⟩, ⟨v', f', hv', z.congr (by rw [dumS_len, l]), fun j b a xs' e => ?_⟩, fun b hb => ?_⟩
    · have hj : j < S.length := by rw [l]; exact (List.getElem?_eq_some_iff.mp e).1
      obtain ⟨b2, a2, its2, e3⟩ : ∃ b a its, S[j]? = some (b, a, its) := ⟨_, _, _, List.getElem?_eq_getElem hj⟩
      obtain ⟨ws, e4, r⟩ := back j b2 a2 its2 e3
      rw [e] at e4
      cases e4
      exact (si' j b a its2 e3).1
    · have hb2 := (memfp b).mp hb
      rw [upd_ne (show b ≠ s.heap.objs.size from fun q => by
        subst q
        have hlt : N + S.length + 2 < s.heap.objs.size := hlt
        rw [l] at hlt
        exact absurd hb2.2 (Nat.not_le.mpr hlt))]
      exact (hf b hb).1
  · intro X hP hw hK hc i pins s σ H E I hf st hg
    obtain ⟨hi, hg⟩ := hg
    obtain ⟨v, f, hv, zs, it⟩ := st
    obtain ⟨S, l, apS, zsS, si, hlt, back⟩ := look I hK hg (Nat.le_of_eq hi) zs it
    subst hP hw hK
    refine zipN_nextZ (by rw [l]) (I.ok.hd hc) apS (by rw [l]; exact List.length_pos_iff.mpr hL) (by rw [l]; exact hsz) zsS hv si (fun j b a its e => ?_) (fun xs h' tk v' f' d z hv' si' t k => ?_) fun _ h' tk k => ⟨rfl, ?_⟩
    · obtain ⟨xs, e2, r⟩ := back j b a its e
      have : minLen L ≤ xs.length := minLen_le e2
      rw [← r.length]
      omega
    · exfalso
      obtain ⟨j, x, e, lx⟩ := minLen_at hL
      have hj : j < S.length := by rw [l]; exact (List.getElem?_eq_some_iff.mp e).1
      obtain ⟨b2, a2, its2, e3⟩ : ∃ b a its, S[j]? = some (b, a, its) := ⟨_, _, _, List.getElem?_eq_getElem hj⟩
      obtain ⟨ws, e4, r⟩ := back j b2 a2 its2 e3
      have q := (d.2 j b2 a2 its2 hj e3).2
      rw [e] at e4
      cases e4
      have := r.length
      simp only at lx
      omega
    · exact I.turnedL (t' := tk) (ch := (List.range (L.length + 3)).map (N + ·)) (fun b o hb e => k b o (by
        have : ¬ ((N : Nat) ≤ b ∧ b ≤ N + L.length + 2) := fun q => hb ((memfp b).mpr q)
        by_cases z : (b : Nat) < N
        · exact .inl z
        · exact .inr (Nat.lt_of_not_le fun z2 => this ⟨Nat.le_of_not_lt z, z2⟩)) e) hf
  · obtain ⟨v, f, hv, zs, it⟩ := st
    exact self A s Q E v f zs h
theorem zip_self {P : Program} {w : World} {A : Around} {E : Value → Shared → Prop} {s : Shared} {N : Nat} {S : Srcs} {v : Value} {f : Bool} {Q : Value → Shared → Prop} (hz : ZS N S v f s.heap) (h : Q (.ref (N + S.length + 2)) s) : wpAny (model P w) A (pyIter (.ref (N + S.length + 2))) Q E s := by
  have ty := zipN_type hz
  refine wpAny_pyIter_slot ty F.slot_zip_iter ?_
  refine wpAny_call_entry F.slot_zip_iter ty F.entry_zip_iter ?_ (F.args_zip_iter_1 _)
  exact wpAny_pure ⟨.ref (N + S.length + 2), rfl, "zip", _, ty, F.slot_zip_next.lookup, h⟩
section
variable {X : Cx}
theorem pi_zipZ {e1 e2 e3 : Expr} {ta : TA} {p pos : Pos} {tg : Expr} (hpt : plainTg tg = true) (hg : Gl X "zip") (hm : X.mg "zip" = none) (ha : PA X [e1, e2, e3] ta)
    (hs : starEach [e1, e2, e3] X.env = (false, eval e1 X.env) :: starEach [e2, e3] X.env) (hpl : (backTo pos (starEach [e2, e3] X.env)).any (·.1) = false) :
    PI X tg (.Call (.Name "zip" p) [e1, e2, e3] [] pos) (fun σ H R => ta σ H fun vs H1 => ∃ a b c ka kb kc xs ys zs, vs = [.ref a, .ref b, .ref c] ∧ SqB X.K ka H1 a xs ∧ SqB X.K kb H1 b ys ∧ SqB X.K kc H1 c zs ∧
      R (ItW (SB X.K [(ka, a, xs), (kb, b, ys), (kc, c, zs)]) (minLen [(ka, a, xs), (kb, b, ys), (kc, c, zs)]) fun i => [(ka, a, xs), (kb, b, ys), (kc, c, zs)].map fun x => x.2.2.getD i .non) H1) := by
  refine ⟨fun pins s σ H R I h => ?_⟩
  refine Call_ (ld_blt I hg hm PyProof.Rows.boot_zip (PyProof.Rows.callWith_type1 (thn (ha.run pos pins s σ H _ I h) fun us s1 ⟨vs, H1, I1, r1, q1⟩ => ?_) hs hpl))
  obtain ⟨a, b, c3, ka, kb, kc, xs, ys, zs, ex, hqa, hqb, hqc, q⟩ := q1
  subst ex
  have r3 : ∃ u v w, us = [u, v, w] ∧ RelV (.ref a) u ∧ RelV (.ref b) v ∧ RelV (.ref c3) w := by
    cases r1 with
    | cons q1 r1 =>
      obtain ⟨u, v, rfl, h1, h2⟩ := Vals.two r1
      exact ⟨_, _, _, rfl, q1, h1, h2⟩
  obtain ⟨u, v, w, rfl, ru, rv, rw'⟩ := r3
  cases ru
  cases rv
  cases rw'
  obtain ⟨ita, rva, pa⟩ := sqB I1 hqa
  obtain ⟨itb, rvb, pb⟩ := sqB I1 hqb
  obtain ⟨itc, rvc, pc⟩ := sqB I1 hqc
  have alt := isSq_lt pa
  have blt := isSq_lt pb
  have clt := isSq_lt pc
  refine zip_begins3 (begins_sq ka a ita.toArray) (begins_sq kb b itb.toArray) (begins_sq kc c3 itc.toArray) pa pb pc fun h' hz hTI hTO h1 h2 h3 hsz hk => wpAny_pyIter_zip hz ?_
  have I2 : Inv X pins σ H1 { s1 with heap := h' } := I1.kept (t' := s1.toks) hk
  generalize hN : s1.heap.objs.size = N at *
  have three : ∀ {α : Type} {x y z w : α} {j : Nat}, [x, y, z][j]? = some w → (j = 0 ∧ w = x) ∨ (j = 1 ∧ w = y) ∨ (j = 2 ∧ w = z) := fun {α x y z w j} e => by
    match j, e with
    | 0, e => exact .inl ⟨rfl, by simpa using e.symm⟩
    | 1, e => exact .inr (.inl ⟨rfl, by simpa using e.symm⟩)
    | 2, e => exact .inr (.inr ⟨rfl, by simpa using e.symm⟩)
    | j + 3, e => simp at e
  refine ⟨N + 3 + 2, (List.range (3 + 3)).map (N + ·), _, _, H1, rfl, I2, turn_Z (N := N) (L := [(ka, a, xs), (kb, b, ys), (kc, c3, zs)]) hpt (by simp) (by show 3 ≤ sizeLine; decide) (fun j b' a' xs' e => ?_) (fun A s Q E v f zs hq => zip_self zs hq), ⟨.none, false, .inl rfl, ⟨hz, ⟨_, hTI⟩, ⟨[.none, .none, .none], _, rfl, hTO⟩⟩, fun j b' a' xs' e => ?_⟩, fun c hc => ?_, q⟩
  · rcases three e with ⟨_, e⟩ | ⟨_, e⟩ | ⟨_, e⟩ <;> cases e
    · exact alt
    · exact blt
    · exact clt
  · rcases three e with ⟨rfl, e⟩ | ⟨rfl, e⟩ | ⟨rfl, e⟩ <;> cases e
    · exact isItr_new h1
    · exact isItr_new h2
    · exact isItr_new h3
  · obtain ⟨m, hm, rfl⟩ := List.mem_map.mp hc
    have hle : s1.heap.objs.size ≤ N + m := by rw [hN]; exact Nat.le_add_right _ _
    exact I1.fpOk hle (I1.hok.fresh hle)
end
end PL

end
section
set_option maxHeartbeats 4000000
/-! PLn: enumerate, zip by plain values; comprehensions as values. -/
namespace PL
open PySem PySem.Spec L2
open PyProof.Rows hiding St

section
variable {K : PySem.W.Frag} {H H' : Hp} {Z Z' : Addr → Prop}
theorem FzSeq.sqB {v : V} {xs : List T} (h : FzSeq K H Z v xs) : ∃ a b vs, v = .ref a ∧ Reps K H Z xs [] vs ∧ SqB K b H a vs ∧ ∀ H', Keeps H Z H' → SqB K b H' a vs := by
  obtain ⟨a, vs, e, r, f⟩ := h
  rcases f with f | f
  · exact ⟨a, true, vs, e, r, .inl f.2, fun H' k => .inl (Rd.keep f.2 fun o q => k a o f.1 q)⟩
  · exact ⟨a, false, vs, e, r, .inl (.inl f.2), fun H' k => .inl (.inl (k a _ f.1 f.2))⟩
theorem itok_W {G : Hp → Prop} {n : Nat} {yv : Nat → List V} {ys : List T} (hG : ∀ H', Keeps H Z H' → G H') (hn : ys.length = n) (hy : ∀ i, i < n → ∃ ts, ys[i]? = some (.tup ts) ∧ isFs ts = true ∧ Reps K H Z ts [] (yv i)) : Itok K (ItW G n yv) ys H Z := by
  refine ⟨fun i H' hi k => ⟨by rw [← hn]; exact hi, hG H' k⟩, fun H' k => ⟨hn, hG H' k⟩, fun i H1 Z1 x H2 k hz zt hi y => ?_⟩
  obtain ⟨Tp, rfl, nT, rfl⟩ := y
  obtain ⟨ts, e, f, r⟩ := hy i (by rw [← hn]; exact hi)
  exact ⟨.tup ts, _, e, by simpa [isF] using f, Nw.tup (r.keep hz (fun a u z q => k a u z q) ts fun a m => absurd m (by simp)) zt nT⟩
theorem reps_getD {xs : List T} {vs : List V} (r : Reps K H Z xs [] vs) {i : Nat} (h : i < xs.length) : Rep K H Z xs[i] [] (vs.getD i .non) := by
  obtain ⟨v, h1, h2⟩ := r.nilOs (i := i) (t := xs[i]) (by simp [h])
  rw [List.getD_eq_getElem?_getD, h1]
  exact h2
theorem Reps.mk1 {t : T} {v : V} {ts : List T} {vs : List V} (r : Rep K H Z t [] v) (rs : Reps K H Z ts [] vs) : Reps K H Z (t :: ts) [] (v :: vs) := by
  simp only [Reps]
  exact ⟨[], [], v, vs, rfl, rfl, r, rs⟩
theorem Reps.mk0 : Reps K H Z [] [] [] := by simp [Reps]
end
section
variable {X : Cx} {Φ : Nat → Spec}
theorem vi_enum {e : Expr} {A : P} {p pos tpos : Pos} {elts : List Expr} {kk : Nat} (hg : Gl X "enumerate") (hm : X.mg "enumerate" = none) (ha : PE X e (tP X.K A (wpP Φ A))) (hs : notStar e = true) :
    PI X (.Tuple elts kk tpos) (.Call (.Name "enumerate" p) [e] [] pos) (tI X.K (.enum A) (wpI Φ (.enum A))) := (pi_enumB hg hm (pa_cons (vh_seq ha) pa_nil (star_cons hs)) (star_one hs)).imp fun σ H R ⟨Γ, Z, Os, Qt, ok, w, k⟩ => by
  simp only [wpI] at w
  have w' : wpP Φ A Γ fun x Γ1 => hold A x Γ1 fun xs Γ2 => Qt (xs.zipIdx.map fun q => .tup [.int (q.2 : Nat), q.1]) Γ2 := w
  refine ⟨Γ, Z, Os, _, ok, w', fun xs Γ' v H' Z' Os' q ok' e' f fs cap => ?_⟩
  obtain ⟨a, b, vs, rfl, r, sq, kp⟩ := f.sqB
  refine ⟨a, b, vs, rfl, sq, k _ Γ' H' Z' Os' _ q ok' e' (itok_W kp (by simp [r.length]) fun i hi => ?_) fun _ => by simpa using cap⟩
  have hi' : i < xs.length := by rw [r.length]; exact hi
  refine ⟨[.int (i : Nat), xs[i]], by simp [hi'], by simp [isFs, isF, isFs_get fs (i := i) (t := xs[i]) (by simp [hi'])], .mk1 rep_int (.mk1 (reps_getD r hi') .mk0)⟩
theorem vi_zip2 {e1 e2 : Expr} {A B : P} {p pos tpos : Pos} {elts : List Expr} {kk : Nat} (hg : Gl X "zip") (hm : X.mg "zip" = none) (ha : PE X e1 (tP X.K A (wpP Φ A))) (hb : PE X e2 (tP X.K B (wpP Φ B))) (hs : notStar e1 = true ∧ notStar e2 = true) :
    PI X (.Tuple elts kk tpos) (.Call (.Name "zip" p) [e1, e2] [] pos) (tI X.K (.zip2 A B) (wpI Φ (.zip2 A B))) := (pi_zipB hg hm (pa_cons (vh_seq ha) (pa_cons (vh_seq hb) pa_nil (star_cons hs.2)) (star_cons hs.1)) (star_cons hs.1) (star_any (by simp [hs.2]))).imp fun σ H R ⟨Γ, Z, Os, Qt, ok, w, k⟩ => by
  simp only [wpI] at w
  have w' : wpP Φ A Γ fun x Γ1 => hold A x Γ1 fun xs Γ2 => wpP Φ B Γ2 fun y Γ3 => hold B y Γ3 fun ys Γ4 => Qt ((xs.zip ys).map fun z => .tup [z.1, z.2]) Γ4 := w
  refine ⟨Γ, Z, Os, _, ok, w', fun xs Γ1 v1 H1 Z1 Os1 q1 ok1 ex1 f1 fs1 cap1 => ?_⟩
  refine ⟨Γ1, Z1, Os1, _, ok1, q1, fun ys Γ2 v2 H2 Z2 Os2 q2 ok2 ex2 f2 fs2 cap2 => ?_⟩
  have f1 := f1.keep ex2.zz (ex2.keepZ ok1.own)
  obtain ⟨a, ka, vs, rfl, ra, sqa, kpa⟩ := f1.sqB
  obtain ⟨b, kb, ws, rfl, rb, sqb, kpb⟩ := f2.sqB
  refine ⟨a, b, ka, kb, vs, ws, rfl, sqa, sqb, k _ Γ2 H2 Z2 Os2 _ q2 ok2 (ex1.trans ex2) (itok_W (fun H' kk => ⟨kpa H' kk, kpb H' kk⟩) (by simp [ra.length, rb.length]) fun i hi => ?_) fun _ => by simp; omega⟩
  have ha' : i < xs.length := by rw [ra.length]; omega
  have hb' : i < ys.length := by rw [rb.length]; omega
  refine ⟨[xs[i], ys[i]], ?_, by simp [isFs, isFs_get fs1 (i := i) (t := xs[i]) (by simp [ha']), isFs_get fs2 (i := i) (t := ys[i]) (by simp [hb'])], .mk1 (reps_getD ra ha') (.mk1 (reps_getD rb hb') .mk0)⟩
  have hz : i < (xs.zip ys).length := by simp; omega
  simp [List.getElem?_eq_getElem hz]
theorem vi_zip3 {e1 e2 e3 : Expr} {A B C : P} {p pos tpos : Pos} {elts : List Expr} {kk : Nat} (hg : Gl X "zip") (hm : X.mg "zip" = none) (ha : PE X e1 (tP X.K A (wpP Φ A))) (hb : PE X e2 (tP X.K B (wpP Φ B))) (hc : PE X e3 (tP X.K C (wpP Φ C))) (hs : notStar e1 = true ∧ notStar e2 = true ∧ notStar e3 = true) :
    PI X (.Tuple elts kk tpos) (.Call (.Name "zip" p) [e1, e2, e3] [] pos) (tI X.K (.zip3 A B C) (wpI Φ (.zip3 A B C))) := (pi_zipC hg hm (pa_cons (vh_seq ha) (pa_cons (vh_seq hb) (pa_cons (vh_seq hc) pa_nil (star_cons hs.2.2)) (star_cons hs.2.1)) (star_cons hs.1)) (star_cons hs.1) (star_any (by simp [hs.2]))).imp fun σ H R ⟨Γ, Z, Os, Qt, ok, w, k⟩ => by
  simp only [wpI] at w
  have w' : wpP Φ A Γ fun x Γ1 => hold A x Γ1 fun xs Γ2 => wpP Φ B Γ2 fun y Γ3 => hold B y Γ3 fun ys Γ4 => wpP Φ C Γ4 fun z Γ5 => hold C z Γ5 fun zs Γ6 => Qt ((xs.zip (ys.zip zs)).map fun z => .tup [z.1, z.2.1, z.2.2]) Γ6 := w
  refine ⟨Γ, Z, Os, _, ok, w', fun xs Γ1 v1 H1 Z1 Os1 q1 ok1 ex1 f1 fs1 cap1 => ?_⟩
  refine ⟨Γ1, Z1, Os1, _, ok1, q1, fun ys Γ2 v2 H2 Z2 Os2 q2 ok2 ex2 f2 fs2 cap2 => ?_⟩
  refine ⟨Γ2, Z2, Os2, _, ok2, q2, fun zs Γ3 v3 H3 Z3 Os3 q3 ok3 ex3 f3 fs3 cap3 => ?_⟩
  have ex23 := ex2.trans ex3
  have f1 := f1.keep ex23.zz (ex23.keepZ ok1.own)
  have f2 := f2.keep ex3.zz (ex3.keepZ ok2.own)
  obtain ⟨a, ka, vs, rfl, ra, sqa, kpa⟩ := f1.sqB
  obtain ⟨b, kb, ws, rfl, rb, sqb, kpb⟩ := f2.sqB
  obtain ⟨c, kc, us, rfl, rc, sqc, kpc⟩ := f3.sqB
  refine ⟨a, b, c, ka, kb, kc, vs, ws, us, rfl, sqa, sqb, sqc, k _ Γ3 H3 Z3 Os3 _ q3 ok3 (ex1.trans ex23) (itok_W (fun H' kk => ⟨kpa H' kk, kpb H' kk, kpc H' kk⟩) (by simp [ra.length, rb.length, rc.length, Nat.min_assoc]) fun i hi => ?_) fun _ => by simp; omega⟩
  have ha' : i < xs.length := by rw [ra.length]; omega
  have hb' : i < ys.length := by rw [rb.length]; omega
  have hc' : i < zs.length := by rw [rc.length]; omega
  refine ⟨[xs[i], ys[i], zs[i]], ?_, by simp [isFs, isFs_get fs1 (i := i) (t := xs[i]) (by simp [ha']), isFs_get fs2 (i := i) (t := ys[i]) (by simp [hb']), isFs_get fs3 (i := i) (t := zs[i]) (by simp [hc'])], .mk1 (reps_getD ra ha') (.mk1 (reps_getD rb hb') (.mk1 (reps_getD rc hc') .mk0))⟩
  have hz : i < (xs.zip (ys.zip zs)).length := by simp; omega
  simp [List.getElem?_eq_getElem hz]
theorem vi_zip3n {tg e1 e2 e3 : Expr} {A B C : P} {p pos : Pos} (hpt : plainTg tg = true) (hg : Gl X "zip") (hm : X.mg "zip" = none) (ha : PE X e1 (tP X.K A (wpP Φ A))) (hb : PE X e2 (tP X.K B (wpP Φ B))) (hc : PE X e3 (tP X.K C (wpP Φ C))) (hs : notStar e1 = true ∧ notStar e2 = true ∧ notStar e3 = true) :
    PI X tg (.Call (.Name "zip" p) [e1, e2, e3] [] pos) (tI X.K (.zip3 A B C) (wpI Φ (.zip3 A B C))) := (pi_zipZ hpt hg hm (pa_cons (vh_seq ha) (pa_cons (vh_seq hb) (pa_cons (vh_seq hc) pa_nil (star_cons hs.2.2)) (star_cons hs.2.1)) (star_cons hs.1)) (star_cons hs.1) (star_any (by simp [hs.2]))).imp fun σ H R ⟨Γ, Z, Os, Qt, ok, w, k⟩ => by
  simp only [wpI] at w
  have w' : wpP Φ A Γ fun x Γ1 => hold A x Γ1 fun xs Γ2 => wpP Φ B Γ2 fun y Γ3 => hold B y Γ3 fun ys Γ4 => wpP Φ C Γ4 fun z Γ5 => hold C z Γ5 fun zs Γ6 => Qt ((xs.zip (ys.zip zs)).map fun z => .tup [z.1, z.2.1, z.2.2]) Γ6 := w
  refine ⟨Γ, Z, Os, _, ok, w', fun xs Γ1 v1 H1 Z1 Os1 q1 ok1 ex1 f1 fs1 cap1 => ?_⟩
  refine ⟨Γ1, Z1, Os1, _, ok1, q1, fun ys Γ2 v2 H2 Z2 Os2 q2 ok2 ex2 f2 fs2 cap2 => ?_⟩
  refine ⟨Γ2, Z2, Os2, _, ok2, q2, fun zs Γ3 v3 H3 Z3 Os3 q3 ok3 ex3 f3 fs3 cap3 => ?_⟩
  have ex23 := ex2.trans ex3
  have f1 := f1.keep ex23.zz (ex23.keepZ ok1.own)
  have f2 := f2.keep ex3.zz (ex3.keepZ ok2.own)
  obtain ⟨a, ka, vs, rfl, ra, sqa, kpa⟩ := f1.sqB
  obtain ⟨b, kb, ws, rfl, rb, sqb, kpb⟩ := f2.sqB
  obtain ⟨c, kc, us, rfl, rc, sqc, kpc⟩ := f3.sqB
  refine ⟨a, b, c, ka, kb, kc, vs, ws, us, rfl, sqa, sqb, sqc, k _ Γ3 H3 Z3 Os3 _ q3 ok3 (ex1.trans ex23) (itok_W (fun H' kk j b' a' xs' e => ?_) (by simp [minLen, ra.length, rb.length, rc.length]) fun i hi => ?_) fun _ => by simp; omega⟩
  · match j, e with
    | 0, e => cases e; exact kpa H' kk
    | 1, e => cases e; exact kpb H' kk
    | 2, e => cases e; exact kpc H' kk
    | j + 3, e => simp at e
  have hi : i < min vs.length (min ws.length us.length) := hi
  have ha' : i < xs.length := by rw [ra.length]; omega
  have hb' : i < ys.length := by rw [rb.length]; omega
  have hc' : i < zs.length := by rw [rc.length]; omega
  refine ⟨[xs[i], ys[i], zs[i]], ?_, by simp [isFs, isFs_get fs1 (i := i) (t := xs[i]) (by simp [ha']), isFs_get fs2 (i := i) (t := ys[i]) (by simp [hb']), isFs_get fs3 (i := i) (t := zs[i]) (by simp [hc'])], .mk1 (reps_getD ra ha') (.mk1 (reps_getD rb hb') (.mk1 (reps_getD rc hc') .mk0))⟩
  have hz : i < (xs.zip (ys.zip zs)).length := by simp; omega
  simp [List.getElem?_eq_getElem hz]
/-! ### comprehensions -/
theorem _root_.L2.PTs.imp {X : Cx} {e : List Expr} {t t' : TT} (h : PTs X e t) (i : ∀ σ H Q, t' σ H Q → t σ H Q) : PTs X e t' := ⟨fun pins s σ H Q I q => h.run pins s σ H Q I (i _ _ _ q)⟩
theorem vts_no : PTs X [] (tQ X.K (wpOc Φ .no)) := pts_nil.imp fun σ H Q ⟨Γ, Z, Os, Qt, ok, w, k⟩ => by
  simp only [wpOc] at w
  exact k true Γ H Z Os w ok Ext.refl
theorem vts_so {c : Expr} {C : C} (h : PT X c (tQ X.K (wpC Φ C))) : PTs X [c] (tQ X.K (wpOc Φ (.so C))) := (pts_one h).imp fun σ H Q ⟨Γ, Z, Os, Qt, ok, w, k⟩ => by
  simp only [wpOc] at w
  exact ⟨Γ, Z, Os, Qt, ok, w, k⟩
def notSet : Expr → Bool
  | .Set _ _ _ => false
  | _ => true
theorem fold_ok {e : Expr} {env : PySem.Env} (h : notSet e = true) : ∀ x, foldedSetIterable e env x = pure x := fun x => by
  cases e <;> first | rfl | cases h
/-- what a comprehension's block is to be -/
abbrev Blk (X : Cx) (scope : Scope) (P : Cx → Prop) : Prop := ∀ (s : Shared) (H : Hp) (C : Addr) (cl : List (Str × Addr)) (fp : List Addr), P (X.blk s H scope (compEnvC scope cl C X.env) fp)
theorem ve_lc {elt tg iter : Expr} {ifs : List Expr} {scope : Scope} {own : List (Str × Nat)} {pos : Pos} {it : I} {g : G} {c : Oc} {e : E} (hc : X.calm = true) (hN : X.N.Nodup) (hi : PI X tg iter (tI X.K it (wpI Φ it))) (ok : BlkOk X.N X.env.scope scope own)
    (hg : Blk X scope fun Y => PG Y tg (tGT Y.K g)) (ht : Blk X scope fun Y => PTs Y ifs (tQ Y.K (wpOc Φ c))) (he : Blk X scope fun Y => PE Y elt (tV Y.K (wpE Φ e))) (hs : notSet iter = true) (hgo : ∀ i ∈ gN g, i ∈ own.map (·.2)) :
    PE X (.ListComp elt [⟨tg, iter, ifs, 0⟩] scope pos) (tV X.K (wpE Φ (.lc (own.map (·.2)) it g c e))) :=
  (pe_lc hc hN hi ok hg ht he (fold_ok hs)).imp (lc_imp hgo)
theorem ps_lc {i : Nat} {y : Str} {py : Pos} {elt tg iter : Expr} {ifs : List Expr} {scope : Scope} {own : List (Str × Nat)} {pos spos : Pos} {it : I} {g : G} {c : Oc} {e : E} (hc : X.calm = true) (hN : X.N.Nodup) (hy : X.N[i]? = some y) (hyl : X.env.scope.names.lookup y = some .local)
    (hsw : swapsWith (.ListComp elt [⟨tg, iter, ifs, 0⟩] scope pos) (some (.Name y py)) spos.line X.env = pure true) (hi : PI X tg iter (tI X.K it (wpI Φ it))) (ok : BlkOk X.N X.env.scope scope own)
    (hg : Blk X scope fun Y => PG Y tg (tGT Y.K g)) (ht : Blk X scope fun Y => PTs Y ifs (tQ Y.K (wpOc Φ c))) (he : Blk X scope fun Y => PE Y elt (tV Y.K (wpE Φ e))) (hs : notSet iter = true) (hgo : ∀ i ∈ gN g, i ∈ own.map (·.2)) :
    PS X (.Assign [.Name y py] (.ListComp elt [⟨tg, iter, ifs, 0⟩] scope pos) spos) (tAsg (tV X.K (wpE Φ (.lc (own.map (·.2)) it g c e))) (gName i)) :=
  (ps_setLc hc hN hy hyl hsw hi ok hg ht he (fold_ok hs)).imp fun D σ H q => lc_imp hgo σ H _ q
end
end PL

end
section
set_option maxHeartbeats 4000000
/-! PQc: list comprehensions with two fors. -/
namespace PL
open PySem PySem.Spec L2
open PyProof.Rows hiding St
theorem wipeE_sub {own own1 : List Nat} (h : ∀ i ∈ own1, i ∈ own) (Γ : Env) : wipeE own (wipeE own1 Γ) = wipeE own Γ := by
  apply List.ext_getElem?
  intro i
  by_cases m : i ∈ own
  · have g : ∀ Γ : Env, (wipeE own Γ)[i]? = if i < Γ.length then some none else none := fun Γ => by
      by_cases hl : i < Γ.length
      · rw [if_pos hl]
        have hl' : i < (wipeE own Γ).length := by rw [wipeE_len]; exact hl
        rw [List.getElem?_eq_getElem hl']
        cases q : (wipeE own Γ)[i] with
        | none => rfl
        | some t => exact absurd (by rw [List.getElem?_eq_getElem hl', q]) (wipeE_in m t)
      · rw [if_neg hl, List.getElem?_eq_none (by rw [wipeE_len]; omega)]
    rw [g, g, wipeE_len]
  · rw [wipeE_out m, wipeE_out m, wipeE_out fun z => m (h i z)]
/-- the list that is being made, at D -/
structure AS (K : PySem.W.Frag) (D : Addr) (H : Hp) (Z : Addr → Prop) (L : List Addr) (ys : List T) (vs : List V) : Prop where
  hd : H D = some (.lst vs)
  ry : Reps K H Z ys [] vs
  fy : isFs ys = true
  ow : Own H Z (D :: L)
section
variable {K : PySem.W.Frag} {D : Addr} {H H' : Hp} {Z Z' : Addr → Prop} {L L' : List Addr} {ys : List T} {vs : List V}
theorem AS.nw (a : AS K D H Z L ys vs) {t : T} {x : V} (n : Nw K H Z t x H' Z' []) : AS K D H' Z' L ys vs ∧ ∀ {os0 : List Addr} {H0 : Hp} {Z0 : Addr → Prop}, Ext os0 H0 Z0 H Z (D :: L) → Ext os0 H0 Z0 H' Z' (D :: L) := by
  refine ⟨⟨n.ext.same D _ a.hd (by simp), a.ry.keep n.ext.zz (fun a u _ q => n.ext.same a u q (by simp)) ys fun a m => absurd m (by simp), a.fy, ?_⟩, fun {os0 H0 Z0} e => ?_⟩
  · have := a.ow.ext0 n.ext n.own
    simpa using this
  · have := n.ext.frame (D :: L)
    rw [List.append_nil] at this
    exact e.trans this
theorem AS.sub (a : AS K D H Z L ys vs) (o : Own H Z L') (h : ∀ x ∈ L', x ∈ L) : AS K D H Z L' ys vs ∧ ∀ {os0 : List Addr} {H0 : Hp} {Z0 : Addr → Prop}, Ext os0 H0 Z0 H Z (D :: L) → Ext os0 H0 Z0 H Z (D :: L') := by
  refine ⟨⟨a.hd, a.ry, a.fy, ?_, fun x m => ?_, fun x m => ?_⟩, fun {os0 H0 Z0} e => e.sub fun x m => ?_⟩
  · rw [List.nodup_cons]
    exact ⟨fun m => (List.nodup_cons.mp a.ow.nd).1 (h D m), o.nd⟩
  · rcases List.mem_cons.mp m with m | m
    · exact a.ow.nz x (by rw [m]; exact List.mem_cons_self)
    · exact o.nz x m
  · rcases List.mem_cons.mp m with m | m
    · exact a.ow.tr x (by rw [m]; exact List.mem_cons_self)
    · exact o.tr x m
  · rcases List.mem_cons.mp m with m | m
    · rw [m]; exact List.mem_cons_self
    · exact List.mem_cons_of_mem _ (h x m)
theorem AS.ext (a : AS K D H Z L ys vs) (e : Ext L H Z H' Z' L') (o' : Own H' Z' L') : AS K D H' Z' L' ys vs ∧ ∀ {os0 : List Addr} {H0 : Hp} {Z0 : Addr → Prop}, Ext os0 H0 Z0 H Z (D :: L) → Ext os0 H0 Z0 H' Z' (D :: L') := by
  have ow : Own H Z ([D] ++ L) := a.ow
  refine ⟨⟨e.same D _ a.hd (ow.apart (by simp)), a.ry.ext (t := []) e (by simpa using ow.right), a.fy, ow.frame e o'⟩, fun {os0 H0 Z0} x => x.trans (e.frame [D])⟩
theorem AS.push {Γ : Env} {Os : List (List Addr)} {σ : L2.St} (a : AS K D H Z Os.flatten ys vs) (ok : Ok K H Z Γ Os σ) {y : T} {v : V} (f : isF y = true) (r : Rep K H Z y [] v) :
    AS K D (upd H D (.lst (vs ++ [v]))) Z Os.flatten (ys ++ [y]) (vs ++ [v]) ∧ Ok K (upd H D (.lst (vs ++ [v]))) Z Γ Os σ ∧ ∀ {os0 : List Addr} {H0 : Hp} {Z0 : Addr → Prop}, Ext os0 H0 Z0 H Z (D :: Os.flatten) → Ext os0 H0 Z0 (upd H D (.lst (vs ++ [v]))) Z (D :: Os.flatten) := by
  have nzD : ¬ Z D := a.ow.nz D (by simp)
  obtain ⟨ok7, ow7, ext7⟩ := ok.side (u := .lst (vs ++ [v])) (os := []) a.ow
  refine ⟨⟨upd_same, ?_, ?_, ow7⟩, ok7, fun {os0 H0 Z0} e => ext7 e⟩
  · have r1 := a.ry.upd (u := .lst (vs ++ [v])) nzD (by simp)
    have r2 := r.upd (u := .lst (vs ++ [v])) nzD (by simp)
    have := r1.append (us := [y]) (o2 := []) (ws := [v]) (by simp only [Reps]; exact ⟨[], [], v, [], rfl, rfl, r2, rfl, rfl⟩)
    simpa using this
  · rw [isFs_all, List.all_append, ← isFs_all, a.fy]; simp [f]
end
section
variable {Φ : Nat → Spec}
theorem lc2_imp {K : PySem.W.Frag} {own own1 : List Nat} {it it1 : I} {g g1 : G} {c c1 : Oc} {e : E} (hg : ∀ i ∈ gN g, i ∈ own) (hg1 : ∀ i ∈ gN g1, i ∈ own1) (ho : ∀ i ∈ own1, i ∈ own) : ∀ σ H Q, tV K (wpE Φ (.lc2 own it g c own1 it1 g1 c1 e)) σ H Q →
    tLc2 (tI K it (wpI Φ it)) (tGT K g) (tQ K (wpOc Φ c)) (tI K it1 (wpI Φ it1)) (tGT K g1) (tQ K (wpOc Φ c1)) (tV K (wpE Φ e)) own own1 σ H Q := fun σ H Q ⟨Γ, Z, Os, Qt, ok, w, k⟩ => by
  simp only [wpE] at w
  refine ⟨Γ, Z, Os, _, ok, w, fun xs Γ1 H1 Z1 Os1 J q1 ok1 e1 io cap D hD => ?_⟩
  obtain ⟨cp, lp⟩ := q1
  have wl : (L2.wipe σ own).length = σ.length := wipe_length σ own
  generalize hin : (fun (y : T) (Γ5 : Env) (acc1 : List T) (K1 : List T → Env → Prop) => ∃ Γ6, bindG g1 y Γ5 = some Γ6 ∧ wpOc Φ c1 Γ6 fun b1 Γ7 => if b1 = true then wpE Φ e Γ7 fun z Γ8 => isF z = true ∧ acc1.length < sizeLine ∧ K1 (acc1 ++ [z]) Γ8 else K1 acc1 Γ7) = inner at lp
  generalize hou : (fun (x : T) (Γ' : Env) (acc : List T) (Kk : List T → Env → Prop) => ∃ Γ2, bindG g x Γ' = some Γ2 ∧ wpOc Φ c Γ2 fun b Γ3 => if b = true then wpI Φ it1 Γ3 (fun ys Γ4 => lcCap it1 ys ∧ lcA own1 inner ys Γ4 acc Kk) else Kk acc Γ3) = outer at lp
  -- the invariant
  refine ⟨fun i m H2 => m = xs.length - i ∧ i ≤ xs.length ∧ ∃ Γ2 Z2 Os2 ys vs, Ok K H2 Z2 (wipeE own Γ2) Os2 (L2.wipe σ own) ∧ lcA own outer (xs.drop i) Γ2 ys (fun ys Γ' => Qt (.lst true ys) (backE own Γ1 Γ')) ∧
    AS K D H2 Z2 Os2.flatten ys vs ∧ Ext Os1.flatten H1 Z1 H2 Z2 (D :: Os2.flatten), ⟨xs.length, by simp, Nat.zero_le _, ?_⟩, ?_⟩
  · obtain ⟨ex, ow⟩ := new_own (o := HO.lst []) hD ok1.zt
    have okw := ok1.wipe own wl fun i n => wipe_out n
    have ok2 := okw.ext0 ex (upd_zt ok1.zt)
    refine ⟨Γ1, Z1, _, [], [], ok2, lp, ⟨upd_same, by simp [Reps], rfl, ?_⟩, ?_⟩
    · exact okw.own.ext0 ex ow
    · have := ex.frame (wipeO own Os1).flatten
      rw [List.append_nil] at this
      refine (this.wide (os1 := Os1.flatten) fun a m => (wipeO_sub own Os1).subset m).sub fun a m => ?_
      rcases List.mem_cons.mp m with m | m
      · exact List.mem_append_right _ (by rw [m]; simp)
      · exact List.mem_append_left _ m
  · rintro i m H2 ⟨rfl, hi, Γ2, Z2, Os2, ys, vs, ok2, lp2, as2, ex2⟩
    have kp := Keeps.of ex2 ok1.own
    by_cases hlt : i < xs.length
    · refine .inr ⟨io.goes i H2 hlt kp, _, fun H' p => ⟨xs.length - (i + 1), by omega, rfl, by omega, p⟩, fun x H3 y => ?_⟩
      obtain ⟨t, Z3, ht, ft, nw⟩ := io.yld i H2 Z2 x H3 kp ex2.zz ok2.zt hlt y
      have edrop : xs.drop i = t :: xs.drop (i + 1) := by
        rw [List.drop_eq_getElem_cons hlt]
        have := List.getElem?_eq_getElem hlt
        rw [this] at ht
        cases ht
        rfl
      rw [edrop] at lp2
      simp only [lcA] at lp2
      rw [← hou] at lp2
      obtain ⟨Γ3, hb, lp3⟩ := lp2
      have ok3 := ok2.ext0 nw.ext nw.zt
      obtain ⟨as3, x3⟩ := as2.nw nw
      refine ⟨_, Z3, Os2, t, [], Γ3, ok3, nw.rep, by simpa using ok3.own, hb, fun σ4 Os4 ok4 sub4 kp4 => ?_⟩
      have off4 : ∀ j, j ∉ own → σ4[j]? = (L2.wipe σ own)[j]? := fun j n => kp4 j fun m => n (hg j m)
      have len4 : σ4.length = (L2.wipe σ own).length := by rw [ok4.ls, ok3.ls]; exact (bindG_len hb)
      refine ⟨?_, Γ3, Z3, Os4, _, ok4, lp3, fun b Γ5 H5 Z5 Os5 q5 ok5 e5 => ?_⟩
      · have : L2.wipe σ4 own = L2.wipe (L2.wipe σ own) own := wipe_eq len4 off4
        rw [this]
        exact wipe_eq wl fun j n => wipe_out n
      obtain ⟨as4, x4⟩ := as3.sub ok4.own (fun a m => by simpa using sub4 a m)
      obtain ⟨as5, x5⟩ := as4.ext e5 ok5.own
      have ex5 := x5 (x4 (x3 ex2))
      rw [hou] at q5
      cases b with
      | false =>
        simp only [Bool.false_eq_true, if_false] at q5 ⊢
        have okw := ok5.wipe own (σ2 := L2.wipe σ own) len4.symm fun j n => (off4 j n).symm
        obtain ⟨as6, x6⟩ := as5.sub okw.own fun a m => (wipeO_sub own Os5).subset m
        refine ⟨wipeE own Γ5, Z5, wipeO own Os5, ys, vs, ?_, q5, as6, x6 ex5⟩
        rw [wipeE_twice]; exact okw
      | true =>
        simp only [if_true] at q5 ⊢
        refine ⟨Γ5, Z5, Os5, _, ok5, q5, fun ys1 Γ6 H6 Z6 Os6 J1 q6 ok6 e6 io6 cap6 => ?_⟩
        obtain ⟨cp6, lp6⟩ := q6
        obtain ⟨as6, x6⟩ := as5.ext e6 ok6.own
        have ex6 := x6 ex5
        have wl1 : (L2.wipe σ4 own1).length = σ4.length := wipe_length σ4 own1
        refine ⟨fun j k H7 => k = ys1.length - j ∧ j ≤ ys1.length ∧ ∃ Γ7 Z7 Os7 ys vs, Ok K H7 Z7 (wipeE own1 Γ7) Os7 (L2.wipe σ4 own1) ∧ lcA own1 inner (ys1.drop j) Γ7 ys (fun acc' Γ' => lcA own outer (xs.drop (i + 1)) (wipeE own Γ') acc' (fun ys Γ' => Qt (.lst true ys) (backE own Γ1 Γ'))) ∧
          AS K D H7 Z7 Os7.flatten ys vs ∧ Ext Os1.flatten H1 Z1 H7 Z7 (D :: Os7.flatten) ∧ Ext (D :: Os6.flatten) H6 Z6 H7 Z7 (D :: Os7.flatten), ⟨ys1.length, by simp, Nat.zero_le _, ?_⟩, ?_⟩
        · have okw := ok6.wipe own1 wl1 fun i n => wipe_out n
          obtain ⟨as7, x7⟩ := as6.sub okw.own fun a m => (wipeO_sub own1 Os6).subset m
          exact ⟨Γ6, Z6, _, ys, vs, okw, lp6, as7, x7 ex6, x7 Ext.refl⟩
        · rintro j kk H7 ⟨rfl, hj, Γ7, Z7, Os7, ys7, vs7, ok7, lp7, as7, ex7, in7⟩
          have kp7 := Keeps.of in7 as6.ow
          by_cases hjlt : j < ys1.length
          · refine .inr ⟨io6.goes j H7 hjlt kp7, _, fun H' p => ⟨ys1.length - (j + 1), by omega, rfl, by omega, p⟩, fun x8 H8 y8 => ?_⟩
            obtain ⟨t8, Z8, ht8, ft8, nw8⟩ := io6.yld j H7 Z7 x8 H8 kp7 in7.zz ok7.zt hjlt y8
            have edrop8 : ys1.drop j = t8 :: ys1.drop (j + 1) := by
              rw [List.drop_eq_getElem_cons hjlt]
              have := List.getElem?_eq_getElem hjlt
              rw [this] at ht8
              cases ht8
              rfl
            rw [edrop8] at lp7
            simp only [lcA] at lp7
            rw [← hin] at lp7
            obtain ⟨Γ8, hb8, lp8⟩ := lp7
            have ok8 := ok7.ext0 nw8.ext nw8.zt
            obtain ⟨as8, x8'⟩ := as7.nw nw8
            refine ⟨_, Z8, Os7, t8, [], Γ8, ok8, nw8.rep, by simpa using ok8.own, hb8, fun σ9 Os9 ok9 sub9 kp9 => ?_⟩
            have off9 : ∀ j, j ∉ own1 → σ9[j]? = (L2.wipe σ4 own1)[j]? := fun j n => kp9 j fun m => n (hg1 j m)
            have len9 : σ9.length = (L2.wipe σ4 own1).length := by rw [ok9.ls, ok8.ls]; exact (bindG_len hb8)
            refine ⟨?_, Γ8, Z8, Os9, _, ok9, lp8, fun b1 Γ10 H10 Z10 Os10 q10 ok10 e10 => ?_⟩
            · have : L2.wipe σ9 own1 = L2.wipe (L2.wipe σ4 own1) own1 := wipe_eq len9 off9
              rw [this]
              exact wipe_eq wl1 fun j n => wipe_out n
            obtain ⟨as9, x9⟩ := as8.sub ok9.own (fun a m => by simpa using sub9 a m)
            obtain ⟨as10, x10⟩ := as9.ext e10 ok10.own
            have ex10 := x10 (x9 (x8' ex7))
            have in10 := x10 (x9 (x8' in7))
            rw [hin] at q10
            cases b1 with
            | false =>
              simp only [Bool.false_eq_true, if_false] at q10 ⊢
              have okw := ok10.wipe own1 (σ2 := L2.wipe σ4 own1) len9.symm fun j n => (off9 j n).symm
              obtain ⟨as11, x11⟩ := as10.sub okw.own fun a m => (wipeO_sub own1 Os10).subset m
              refine ⟨wipeE own1 Γ10, Z10, wipeO own1 Os10, ys7, vs7, ?_, q10, as11, x11 ex10, x11 in10⟩
              rw [wipeE_twice]; exact okw
            | true =>
              simp only [if_true] at q10 ⊢
              refine ⟨Γ10, Z10, Os10, _, ok10, q10, fun z Γ11 v H11 Z11 Os11 os11 q11 r11 => ?_⟩
              obtain ⟨fz11, hz11, q11⟩ := q11
              have n11 := r11.nilF fz11
              subst n11
              obtain ⟨as11, x11⟩ := as10.ext r11.exto r11.ok.own
              obtain ⟨as12, ok12, x12⟩ := as11.push r11.ok fz11 r11.rep
              have okw := ok12.wipe own1 (σ2 := L2.wipe σ4 own1) len9.symm fun j n => (off9 j n).symm
              obtain ⟨as13, x13⟩ := as12.sub okw.own fun a m => (wipeO_sub own1 Os11).subset m
              refine ⟨vs7, as11.hd, by rw [← as11.ry.length]; exact hz11, wipeE own1 Γ11, Z11, wipeO own1 Os11, ys7 ++ [z], vs7 ++ [v], ?_, q11, as13, x13 (x12 (x11 ex10)), x13 (x12 (x11 in10))⟩
              rw [wipeE_twice]; exact okw
          · have ej : j = ys1.length := by omega
            subst ej
            refine .inl ⟨io6.stops H7 kp7, ?_⟩
            rw [List.drop_length] at lp7
            have okw := ok7.wipe own (σ2 := L2.wipe σ own) (by rw [wl1]; exact len4.symm) fun j n => by
              rw [wipe_out (fun z => n (ho j z)), off4 j n]
            rw [wipeE_sub ho] at okw
            obtain ⟨as8, x8⟩ := as7.sub okw.own fun a m => (wipeO_sub own Os7).subset m
            refine ⟨wipeE own Γ7, Z7, wipeO own Os7, ys7, vs7, ?_, lp7, as8, x8 ex7⟩
            rw [wipeE_twice]; exact okw
    · have e : i = xs.length := by omega
      subst e
      refine .inl ⟨io.stops H2 kp, ?_⟩
      rw [List.drop_length] at lp2
      have okB : Ok K H2 Z2 (backE own Γ1 Γ2) (wipeO own Os2) σ := by
        have oks := ok2.own.sublist (wipeO_sub own Os2)
        refine ⟨?_, by rw [wipeO_len, backE_len]; have := ok2.lo; rw [wipeE_len] at this; exact this, fun j t e => ?_, oks, ok2.zt⟩
        · have := ok2.ls
          rw [wl, wipeE_len] at this
          rw [backE_len]; exact this
        · by_cases m : j ∈ own
          · obtain ⟨g1, f1⟩ := backE_in m e
            obtain ⟨v, h1, h2⟩ := ok1.get j t g1
            have n := h2.nil t f1
            rw [n] at h2
            rw [wipeO_in m]
            exact ⟨v, h1, h2.keep ex2.zz (ex2.keepZ ok1.own) t fun a m => absurd m (by simp)⟩
          · rw [backE_out m] at e
            obtain ⟨v, h1, h2⟩ := ok2.get j t (by rw [wipeE_out m]; exact e)
            rw [wipe_out m] at h1
            exact ⟨v, h1, by rw [wipeO_out m]; exact h2⟩
      refine k (.lst true ys) _ (.ref D) H2 Z2 (wipeO own Os2) [D] lp2 ⟨okB, ?_, as2.ow.sublist ((wipeO_sub own Os2).append_left [D]), e1.trans (ex2.sub fun a m => ?_)⟩
      · simp only [Rep]
        exact ⟨D, vs, rfl, [], rfl, as2.hd, as2.ry⟩
      · rcases List.mem_append.mp m with m | m
        · rw [List.mem_singleton.mp m]; exact List.mem_cons_self
        · exact List.mem_cons_of_mem _ ((wipeO_sub own Os2).subset m)
end
section
variable {X : Cx} {Φ : Nat → Spec}
theorem ve_lc2 {elt tg iter tg1 iter1 : Expr} {ifs ifs1 : List Expr} {scope : Scope} {own : List (Str × Nat)} {own1 : List Nat} {pos : Pos} {it it1 : I} {g g1 : G} {c c1 : Oc} {e : E} (hc : X.calm = true) (hN : X.N.Nodup) (hi : PI X tg iter (tI X.K it (wpI Φ it))) (ok : BlkOk X.N X.env.scope scope own)
    (hg : Blk X scope fun Y => PG Y tg (tGT Y.K g)) (ht : Blk X scope fun Y => PTs Y ifs (tQ Y.K (wpOc Φ c))) (hi1 : Blk X scope fun Y => PI Y tg1 iter1 (tI Y.K it1 (wpI Φ it1))) (hg1 : Blk X scope fun Y => PG Y tg1 (tGT Y.K g1)) (ht1 : Blk X scope fun Y => PTs Y ifs1 (tQ Y.K (wpOc Φ c1)))
    (he : Blk X scope fun Y => PE Y elt (tV Y.K (wpE Φ e))) (hs : notSet iter = true) (hs1 : notSet iter1 = true) (hgo : ∀ i ∈ gN g, i ∈ own.map (·.2)) (hgo1 : ∀ i ∈ gN g1, i ∈ own1) (ho : ∀ i ∈ own1, i ∈ own.map (·.2)) :
    PE X (.ListComp elt [⟨tg, iter, ifs, 0⟩, ⟨tg1, iter1, ifs1, 0⟩] scope pos) (tV X.K (wpE Φ (.lc2 (own.map (·.2)) it g c own1 it1 g1 c1 e))) :=
  (pe_lc2 hc hN hi ok ho hg ht hi1 hg1 ht1 he (fold_ok hs) (fun env => fold_ok hs1)).imp (lc2_imp hgo hgo1 ho)
end
end PL

end
section
set_option maxHeartbeats 4000000
/-! PQz: zip( *xs ). -/
namespace PL
open PySem PySem.Spec L2
open PyProof.Rows hiding St
theorem zip_pos (v : Value) (vs : List Value) : checkBuiltinCall "zip.__new__" ⟨.type "zip" :: v :: vs, []⟩ = pure () := by kernel_rfl
theorem zip_type (vs : List Value) : checkTypeCall "zip" ⟨vs, []⟩ = pure () := by kernel_rfl
theorem zip_init (obj : Value) (vs : List Value) : argsOk "object.__init__" ⟨obj :: vs, []⟩ := by unfold argsOk; kernel_rfl
theorem zip_class (vs : List Value) : Builtin.SmallTypes.newClass "zip" ⟨.type "zip" :: vs, []⟩ = pure (.type "zip", vs) := by
  unfold Builtin.SmallTypes.newClass
  simp only [isType, sub_zip, pure_bind, Bool.not_true, Bool.false_eq_true, if_false]
/-- a zip of these, begun -/
structure ZNew (N : Nat) (S : Srcs) (h h' : Heap) : Prop where
  zs : ZS N S .none false h'
  it : ∀ (j : Nat) (b : Bool) (a : Addr) (its : List Value), S[j]? = some (b, a, its) → h'.get? (N + j) = some (itO b a)
  sz : h'.objs.size = N + S.length + 3
  kp : ∀ c o, h.get? c = some o → h'.get? c = some o
section
variable {prog : Program} {w : World} {A : Around} {E : Value → Shared → Prop} {s : Shared}
theorem size_mk (g : Array GenState) (s : Shared) : True := trivial
/-- iter of each -/
theorem iter_all {S : Srcs} {Q : List Value → Shared → Prop} (sq : ∀ (j : Nat) (b : Bool) (a : Addr) (its : List Value), S[j]? = some (b, a, its) → IsSq b s.heap a its.toArray)
    (h : ∀ h' : Heap, h'.objs.size = s.heap.objs.size + S.length → (∀ c o, s.heap.get? c = some o → h'.get? c = some o) → (∀ (j : Nat) (b : Bool) (a : Addr) (its : List Value), S[j]? = some (b, a, its) → h'.get? (s.heap.objs.size + j) = some (itO b a)) →
      Q ((List.range S.length).map fun j => Value.ref (s.heap.objs.size + j)) { s with heap := h' }) : wpAny (model prog w) A (Builtin.SmallTypes.iterAll (S.map fun x => Value.ref x.2.1)) Q E s := by
  unfold Builtin.SmallTypes.iterAll
  refine wpAny_bind (forIn_inv (fun k (acc : Array Value) s' => acc.toList = (List.range k).map (fun j => Value.ref (s.heap.objs.size + j)) ∧ ∃ h' : Heap, s' = { s with heap := h' } ∧ h'.objs.size = s.heap.objs.size + k ∧ (∀ c o, s.heap.get? c = some o → h'.get? c = some o) ∧
    (∀ (j : Nat) (b : Bool) (a : Addr) (its : List Value), j < k → S[j]? = some (b, a, its) → h'.get? (s.heap.objs.size + j) = some (itO b a))) (fun k x acc s' hx => ?_) ⟨rfl, s.heap, rfl, rfl, fun _ _ e => e, fun j b a its hj => by omega⟩ fun acc s' => ?_)
  · rintro ⟨ea, h', rfl, hz, kp, it⟩
    rw [List.getElem?_map] at hx
    obtain ⟨⟨b, a, its⟩, e, rfl⟩ := Option.map_eq_some_iff.mp hx
    refine wpAny_bind (wpAny_holding ((begins_sq b a its.toArray).iter prog w _ _ _ _ (isSq_at (sq k b a its e) fun o q => kp a o q) ?_))
    refine wpAny_pure ⟨acc.push (.ref h'.objs.size), rfl, ?_, h'.push (itO b a), rfl, by rw [Heap.size_push, hz]; omega, fun c o q => Heap.get?_push_of_some _ (kp c o q), fun j b' a' its' hj e' => ?_⟩
    · rw [Array.toList_push, ea, List.range_succ, List.map_append, hz]
      rfl
    · by_cases hjk : j = k
      · subst hjk
        rw [e] at e'
        cases e'
        rw [← hz]
        exact Heap.get?_push_size _ (begins_sq b a its.toArray).free
      · exact Heap.get?_push_of_some _ (it j b' a' its' (by omega) e')
  · rintro ⟨ea, h', rfl, hz, kp, it⟩
    rw [List.length_map] at ea hz it
    refine wpAny_pure ?_
    rw [ea]
    exact h h' hz kp fun j b a its e => it j b a its (List.getElem?_eq_some_iff.mp e).1 e
theorem meets_zip_newN (S : Srcs) (hsz : S.length ≤ sizeLine) :
    Meets (Builtin.«zip.__new__» ⟨.type "zip" :: S.map (fun x => Value.ref x.2.1), []⟩) (fun _ R s => (∀ (j : Nat) (b : Bool) (a : Addr) (its : List Value), S[j]? = some (b, a, its) → IsSq b s.heap a its.toArray) ∧
      ∀ h', ZNew s.heap.objs.size S s.heap h' → R (.ok (.ret (.ref (s.heap.objs.size + S.length + 2)))) { s with heap := h' }) :=
  .of_wp fun prog w A R s ⟨sq, h⟩ => by
    unfold Builtin.«zip.__new__»
    refine wpAny_bind (wpAny_of_eq (zip_class _) ?_)
    try dsimp only
    simp only [List.length_nil, Nat.not_lt_zero, if_false, gt_iff_lt]
    refine wpAny_bind (iter_all sq fun h' hz kp it => ?_)
    refine wpAny_bind (wpAny_newTuple ?_ (by simpa using hsz))
    refine wpAny_bind (wpAny_newTuple ?_ (by simpa using hsz))
    unfold Builtin.SmallTypes.newRecord
    dsimp only
    refine wpAny_bind (wpAny_newObj_type (hd := by show 5 ≤ sizeLine + 2; decide) ?_)
    refine wpAny_pure ⟨_, rfl, ?_⟩
    generalize hT : ({ cls := .type "tuple", data := .seq ((List.range S.length).map fun j => Value.ref (s.heap.objs.size + j)).toArray } : Obj) = T1
    generalize hO : ({ cls := .type "tuple", data := .seq (((List.range S.length).map fun j => Value.ref (s.heap.objs.size + j)).map fun _ => Value.none).toArray } : Obj) = T2
    have z1 : (h'.push T1).objs.size = s.heap.objs.size + S.length + 1 := by rw [Heap.size_push, hz]
    have z2 : ((h'.push T1).push T2).objs.size = s.heap.objs.size + S.length + 2 := by rw [Heap.size_push, z1]
    rw [z2]
    show R _ { s with heap := ((h'.push T1).push T2).push { cls := .type "zip", data := .fields #[.none, .bool false, .bool false, .ref h'.objs.size, .ref (h'.push T1).objs.size] } }
    rw [z1, hz]
    refine h _ ⟨⟨?_, ?_, ?_⟩, fun j b a its e => Heap.get?_push_of_some _ (Heap.get?_push_of_some _ (Heap.get?_push_of_some _ (it j b a its e))), by rw [Heap.size_push, z2], fun c o q => Heap.get?_push_of_some _ (Heap.get?_push_of_some _ (Heap.get?_push_of_some _ (kp c o q)))⟩
    · rw [← z2]
      exact Heap.get?_push_size _ rfl
    · refine ⟨0, ?_⟩
      rw [← hz]
      rw [← hT]
      exact Heap.get?_push_of_some _ (Heap.get?_push_of_some _ (Heap.get?_push_size _ rfl))
    · refine ⟨((List.range S.length).map fun j => Value.ref (s.heap.objs.size + j)).map fun _ => Value.none, 0, by simp, ?_⟩
      rw [← z1, ← hO]
      exact Heap.get?_push_of_some _ (Heap.get?_push_size _ rfl)
theorem zip_beginsN {S : Srcs} {Q : Value → Shared → Prop} (hS : S ≠ []) (hsz : S.length ≤ sizeLine) (sq : ∀ (j : Nat) (b : Bool) (a : Addr) (its : List Value), S[j]? = some (b, a, its) → IsSq b s.heap a its.toArray)
    (h : ∀ h', ZNew s.heap.objs.size S s.heap h' → Q (.ref (s.heap.objs.size + S.length + 2)) { s with heap := h' }) : wpAny (model prog w) A (call (.type "zip") (S.map fun x => Value.ref x.2.1)) Q E s := by
  have np : ∃ v vs, S.map (fun x => Value.ref x.2.1) = v :: vs := by
    cases S with
    | nil => exact absurd rfl hS
    | cons x S => exact ⟨_, _, rfl⟩
  obtain ⟨v, vs, e⟩ := np
  refine callType_new F.called_zip (by decide) (zip_type _) (by rw [e]; exact zip_pos v vs) (fun obj => zip_init obj _) F.entry_zip_new (meets_zip_newN S hsz) ⟨sq, fun h' z => ⟨⟨_, z.zs.z, rfl⟩, h h' z⟩⟩
end
/-- f( *xs ), f a built-in class -/
theorem callWith_starT {M : Model} {A : Around} {E : Value → Shared → Prop} {s : Shared} {env : PySem.Env} {pos p : Pos} {T : String} {Q : Value → Shared → Prop} {e : Expr}
    (h : wpAny M A (eval e env) (fun v s₁ => PySem.W.StarOf M A E v (fun vs s₂ => True ∧ wpAny M A (call (.type T) ([] ++ vs)) Q E s₂) s₁) E s)
    (he : starEach [.Starred e p] env = [(true, eval e env)]) : wpAny M A (callWith pos (.type T) [] (backTo pos (starEach [.Starred e p] env)) []) Q E s := by
  rw [he]
  exact PySem.W.ks_call (P := fun _ => True) rfl (fun h _ => ⟨.machine, .inr (.inl rfl), PySem.W.Looks.of_pure rfl⟩) (PySem.W.ks_lone h)
theorem vals_refsL : ∀ {L : List (Bool × Addr × List V)} {us : List Value}, Vals (L.map fun x => V.ref x.2.1) us → us = L.map fun x => Value.ref x.2.1
  | [], _, .nil => rfl
  | q :: L, _, .cons r t => by
    cases r
    rw [vals_refsL t]; rfl
section
variable {X : Cx}
theorem pi_zipS {e1 : Expr} {te : TE} {p p2 pos : Pos} {tg : Expr} (hpt : plainTg tg = true) (hg : Gl X "zip") (hm : X.mg "zip" = none) (ha : PE X e1 te) (hs : starEach [.Starred e1 p2] X.env = [(true, eval e1 X.env)] := by rfl) :
    PI X tg (.Call (.Name "zip" p) [.Starred e1 p2] [] pos) (fun σ H R => te σ H fun v H1 => ∃ (a : Addr) (L : List (Bool × Addr × List V)), v = .ref a ∧ (SqT X.K H1 a (L.map fun x => V.ref x.2.1) ∨ SqL X.K H1 a (L.map fun x => V.ref x.2.1)) ∧ SB X.K L H1 ∧ L ≠ [] ∧
      R (ItW (SB X.K L) (minLen L) fun i => L.map fun x => x.2.2.getD i .non) H1) := by
  refine ⟨fun pins s σ H R I h => ?_⟩
  refine Call_ (ld_blt I hg hm PyProof.Rows.boot_zip (callWith_starT (thn (ha.run pins s σ H _ I h) fun v s1 ⟨y, H1, I1, ry, a, L, ey, hx, sb, hL, q⟩ => ?_) hs))
  subst ey
  obtain rfl : v = Value.ref a := ry
  refine StX.star_any I1 hx fun us s2 I2 rv => ⟨trivial, ?_⟩
  have hsz : L.length ≤ sizeLine := by
    rcases hx with hx | hx
    · obtain ⟨_, _, _, z⟩ := I2.tuple hx
      simpa using z
    · obtain ⟨_, _, _, z⟩ := I2.list hx
      simpa using z
  obtain ⟨S, lS, gS⟩ := srcs_of I2 sb
  have hu : us = S.map fun x => Value.ref x.2.1 := by
    rw [vals_refsL rv]
    apply List.ext_getElem?
    intro j
    rw [List.getElem?_map, List.getElem?_map]
    cases e : L[j]? with
    | none =>
      have : S[j]? = none := by rw [List.getElem?_eq_none_iff] at e ⊢; omega
      rw [this]; rfl
    | some x =>
      obtain ⟨b, a', xs⟩ := x
      obtain ⟨its, e', _⟩ := gS j b a' xs e
      rw [e']; rfl
  have back : ∀ (j : Nat) (b : Bool) (a : Addr) (its : List Value), S[j]? = some (b, a, its) → ∃ xs, L[j]? = some (b, a, xs) ∧ IsSq b s2.heap a its.toArray := fun j b a its e => by
    have hj : j < L.length := by rw [← lS]; exact (List.getElem?_eq_some_iff.mp e).1
    obtain ⟨b', a', xs', e'⟩ : ∃ b a xs, L[j]? = some (b, a, xs) := ⟨_, _, _, List.getElem?_eq_getElem hj⟩
    obtain ⟨its', e2, r, q⟩ := gS j b' a' xs' e'
    rw [e] at e2
    cases e2
    exact ⟨xs', e', q⟩
  rw [hu, List.nil_append]
  refine zip_beginsN (by intro e; rw [e] at lS; exact hL (List.length_eq_zero_iff.mp lS.symm)) (by rw [lS]; exact hsz) (fun j b a its e => let ⟨_, _, q⟩ := back j b a its e; q) fun h' z => ?_
  refine zip_self z.zs ?_
  have I3 : Inv X pins σ H1 { s2 with heap := h' } := I2.kept (t' := s2.toks) z.kp
  have zs' := z.zs.congr (S' := dumS L) (by rw [dumS_len, lS])
  have itr : ∀ (j : Nat) b a xs, L[j]? = some (b, a, xs) → IsItr b h' (s2.heap.objs.size + j) a 0 := fun j b a xs e => by
    obtain ⟨its, e2, _⟩ := gS j b a xs e
    exact isItr_new (z.it j b a its e2)
  have lt : ∀ (j : Nat) b a xs, L[j]? = some (b, a, xs) → (a : Nat) < s2.heap.objs.size := fun j b a xs e => by
    obtain ⟨its, _, _, q⟩ := gS j b a xs e
    exact isSq_lt q
  rw [lS]
  generalize hN : s2.heap.objs.size = N at *
  refine ⟨N + L.length + 2, (List.range (L.length + 3)).map (N + ·), _, _, H1, rfl, I3, turn_Z (N := N) (L := L) hpt hL hsz lt (fun A s Q E v f zs hq => by
    have := zip_self zs (Q := Q) (A := A) (E := E) (P := X.prog) (w := X.w)
    rw [dumS_len] at this
    exact this hq), ⟨.none, false, .inl rfl, zs', itr⟩, fun c hc => ?_, q⟩
  obtain ⟨m, hm, rfl⟩ := List.mem_map.mp hc
  have hle : s2.heap.objs.size ≤ N + m := by rw [hN]; exact Nat.le_add_right _ _
  exact I2.fpOk hle (I2.hok.fresh hle)
end
end PL

end
section
set_option maxHeartbeats 4000000
/-! PQy: zip( *xs ) by plain values. -/
namespace PL
open PySem PySem.Spec L2
open PyProof.Rows hiding St
section
variable (K : PySem.W.Frag) (H : Hp) (Z : Addr → Prop)
def Cols : List (List T) → List (Bool × Addr × List V) → Prop
  | [], [] => True
  | c :: cs, x :: L => (x.1 = false ∧ FzT H Z x.2.1 x.2.2 ∧ Reps K H Z c [] x.2.2) ∧ Cols cs L
  | _, _ => False
end
section
variable {K : PySem.W.Frag} {H : Hp} {Z : Addr → Prop}
theorem cols_of : ∀ {cs : List (List T)} {vs : List V}, Reps K H Z (cs.map T.tup) [] vs → isFs (cs.map T.tup) = true → ∃ L, vs = L.map (fun x => V.ref x.2.1) ∧ Cols K H Z cs L
  | [], vs, r, _ => by
    simp only [List.map_nil, Reps] at r
    exact ⟨[], r.2, trivial⟩
  | c :: cs, vs, r, f => by
    simp only [List.map_cons, Reps] at r
    simp only [List.map_cons, isFs, Bool.and_eq_true] at f
    obtain ⟨o1, o2, v, vs', e1, e2, r1, r2⟩ := r
    obtain ⟨rfl, rfl⟩ := List.append_eq_nil_iff.mp e1.symm
    obtain ⟨L, rfl, h⟩ := cols_of r2 f.2
    obtain ⟨a, ws, rfl, fz, rs⟩ := r1.tup_inv
    exact ⟨(false, a, ws) :: L, e2, ⟨rfl, fz, rs⟩, h⟩
theorem cols_min : ∀ {cs : List (List T)} {L : List (Bool × Addr × List V)}, Cols K H Z cs L → minLen L = mnL cs
  | [], [], _ => rfl
  | [c], [x], h => by show x.2.2.length = c.length; rw [h.1.2.2.length]
  | c :: d :: cs, x :: y :: L, h => by
    show min x.2.2.length (minLen (y :: L)) = min c.length (mnL (d :: cs))
    rw [h.1.2.2.length, cols_min h.2]
  | [], _ :: _, h => False.elim h
  | _ :: _, [], h => False.elim h
  | [c], x :: y :: L, h => False.elim h.2
  | c :: d :: cs, [x], h => False.elim h.2
theorem cols_at {i : Nat} : ∀ {cs : List (List T)} {L : List (Bool × Addr × List V)}, Cols K H Z cs L → (∀ c ∈ cs, i < c.length) → Reps K H Z (cs.map fun c => c.getD i .non) [] (L.map fun x => x.2.2.getD i .non)
  | [], [], _, _ => .mk0
  | c :: cs, x :: L, h, l => by
    have := l c List.mem_cons_self
    refine .mk1 ?_ (cols_at h.2 fun d m => l d (List.mem_cons_of_mem _ m))
    have e : c.getD i .non = c[i] := by simp [List.getD_eq_getElem?_getD, this]
    show Rep K H Z (c.getD i .non) [] (x.2.2.getD i .non)
    rw [e]
    exact reps_getD h.1.2.2 this
  | [], _ :: _, h, _ => False.elim h
  | _ :: _, [], h, _ => False.elim h
theorem cols_sb {H' : Hp} (k : Keeps H Z H') : ∀ {cs : List (List T)} {L : List (Bool × Addr × List V)}, Cols K H Z cs L → SB K L H'
  | [], [], _, j, b, a, xs, e => by simp at e
  | c :: cs, x :: L, h, 0, b, a, xs, e => by
    simp only [List.getElem?_cons_zero, Option.some.injEq] at e
    subst e
    obtain ⟨e1, fz, _⟩ := h.1
    simp only at e1
    subst e1
    exact .inl (.inl (k a _ fz.1 fz.2))
  | c :: cs, x :: L, h, j + 1, b, a, xs, e => cols_sb k h.2 j b a xs (by simpa using e)
  | [], _ :: _, h, _, _, _, _, _ => False.elim h
  | _ :: _, [], h, _, _, _, _, _ => False.elim h
theorem mnL_le : ∀ {cs : List (List T)} {c : List T}, c ∈ cs → mnL cs ≤ c.length
  | [], c, h => nomatch h
  | [d], c, h => by rw [List.mem_singleton.mp h]; exact Nat.le_refl _
  | d :: e :: cs, c, h => by
    rcases List.mem_cons.mp h with rfl | h
    · exact Nat.min_le_left _ _
    · exact Nat.le_trans (Nat.min_le_right _ _) (mnL_le h)
theorem cols_f {i : Nat} : ∀ {cs : List (List T)}, isFs (cs.map T.tup) = true → isFs (cs.map fun c => c.getD i .non) = true
  | [], _ => rfl
  | c :: cs, h => by
    simp only [List.map_cons, isFs, Bool.and_eq_true, isF] at h ⊢
    refine ⟨?_, cols_f h.2⟩
    rw [List.getD_eq_getElem?_getD]
    cases e : c[i]? with
    | none => rfl
    | some t => exact isFs_mem h.1 (List.mem_of_getElem? e)
end
section
variable {X : Cx} {Φ : Nat → Spec}
theorem vi_zips {tg e1 : Expr} {A : P} {p p2 pos : Pos} (hpt : plainTg tg = true) (hg : Gl X "zip") (hm : X.mg "zip" = none) (ha : PE X e1 (tP X.K A (wpP Φ A))) :
    PI X tg (.Call (.Name "zip" p) [.Starred e1 p2] [] pos) (tI X.K (.zips A) (wpI Φ (.zips A))) := (pi_zipS hpt hg hm (vh_seq ha)).imp fun σ H R ⟨Γ, Z, Os, Qt, ok, w, k⟩ => by
  simp only [wpI] at w
  have w' : wpP Φ A Γ fun x Γ1 => hold A x Γ1 fun xs Γ2 => zipsP xs fun ys => Qt ys Γ2 := w
  refine ⟨Γ, Z, Os, _, ok, w', fun xs Γ' v H' Z' Os' q ok' e' f fs cap => ?_⟩
  obtain ⟨cs, rfl, ne, q⟩ := q
  obtain ⟨a, vs, rfl, r, fr⟩ := f
  obtain ⟨L, rfl, cl⟩ := cols_of r fs
  have hL : L ≠ [] := by
    rintro rfl
    cases cs with
    | nil => exact ne rfl
    | cons c cs => exact cl
  have mn := cols_min cl
  refine ⟨a, L, rfl, ?_, cols_sb (fun _ _ _ e => e) cl, hL, k _ Γ' H' Z' Os' _ q ok' e' (itok_W (fun H'' kk => cols_sb kk cl) (by simp [mn]) fun i hi => ?_) fun h => h⟩
  · rcases fr with fr | fr
    · exact .inr fr.sq
    · exact .inl fr.sq
  · rw [mn] at hi
    exact ⟨_, by simp [hi], cols_f fs, cols_at cl fun c m => Nat.lt_of_lt_of_le hi (mnL_le m)⟩
end
end PL

end
section
set_option maxHeartbeats 4000000
/-! PQs: sorted(zip(xs, ys)). -/
namespace PL
open PySem PySem.Spec L2
open PyProof.Rows hiding St
theorem nolen_zip : typeLookup (.type "zip") "__len__" = pure none := by rw [typeLookup_type, builtinLookup_eq_fast]; kernel_rfl
theorem nohint_zip : typeLookup (.type "zip") "__length_hint__" = pure none := by rw [typeLookup_type, builtinLookup_eq_fast]; kernel_rfl
abbrev lsO (acc : Array Value) (c : Nat) : Obj := { cls := .type "list", dict := none, data := .seq acc c, slots := #[] }
def zCh (N D : Nat) (S : Srcs) : List Addr := D :: (List.range (S.length + 3)).map (N + ·)
theorem zCh_mem {N D : Nat} {S : Srcs} {c : Nat} : c ∈ zCh N D S ↔ c = D ∨ (N ≤ c ∧ c ≤ N + S.length + 2) := by
  unfold zCh
  rw [List.mem_cons, List.mem_map]
  constructor
  · rintro (h | ⟨m, hm, rfl⟩)
    · exact .inl h
    · have := List.mem_range.mp hm
      exact .inr ⟨Nat.le_add_right _ _, by omega⟩
  · rintro (h | h)
    · exact .inl h
    · exact .inr ⟨c - N, List.mem_range.mpr (by omega), by omega⟩
section
variable {X : Cx} {pins : List (Addr × Obj)} {σ : L2.St} {A : Around} {R : Result → Shared → Prop}
theorem extend_zip {S : Srcs} {N n D : Nat} {yv : Nat → List V} {res : Value} (hh : A.in1.in1.handled = none) (ap : Apart N S) (hS : 0 < S.length) (hsz : S.length ≤ sizeLine) (hn : n ≤ sizeLine)
    (len : ∀ (j : Nat) (b : Bool) (a : Addr) (its : List Value), S[j]? = some (b, a, its) → n ≤ its.length) (ex : ∃ (j : Nat) (b : Bool) (a : Addr) (its : List Value), S[j]? = some (b, a, its) ∧ n = its.length)
    (row : ∀ i xs, i < n → Drew S i S.length xs → Vals (yv i) xs) (hyl : ∀ i, (yv i).length ≤ sizeLine) (hD : N + S.length + 2 < D)
    (P : Nat → Hp → List V → Prop) (hP : ∀ (i : Nat) (H : Hp) (vs : List V) (T : Addr), i < n → P i H vs → H T = none → P (i + 1) (upd H T (.tup (yv i))) (vs ++ [.ref T])) :
    ∀ (m i : Nat) (s : Shared) (acc : Array Value) (c : Nat) (H : Hp) (vs : List V), n - i = m → i ≤ n → Inv X pins σ H s → (∀ b ∈ zCh N D S, FpOk X pins H b) → (∃ v f, (v = .none ∨ ∃ T : Nat, v = rawInt T) ∧ ZS N S v f s.heap) → SI N S (fun _ => i) s.heap →
    s.heap.get? D = some (lsO acc c) → Vals vs acc.toList → acc.size = i → P i H vs →
    (∀ s' H' vs' acc' c', Inv X pins σ H' s' → s'.heap.get? D = some (lsO acc' c') → Vals vs' acc'.toList → acc'.size = n → P n H' vs' → R (.ok (.ret res)) s') →
    codeAny (model X.prog X.w) A (.builtin "list.extend.loop" ⟨[.ref D, .ref (N + S.length + 2), res], []⟩) R s := by
  intro m
  induction m with
  | zero =>
    rintro i s acc c H vs hm hi I hf ⟨v, f, hv, zs⟩ si hSD rv hai hp hR
    obtain rfl : i = n := by omega
    refine codeAny_builtin F.entry_extend_loop ?_
    rw [Around.under_plainId F.plain_extend_loop _]
    show wpAny _ A.in1 (pyNext (.ref (N + S.length + 2)) >>= _) _ _ s
    refine wpAny_bind (zipN_next (A := A.in1) hh ap hS hsz zs hv si (Nat.lt_trans hD (Heap.lt_size hSD)) len (fun xs h' tk v' f' d z hv' si' t k => ?_) fun _ h' tk k => ?_)
    · exfalso
      obtain ⟨j, b, a, its, e, l⟩ := ex
      have := (d.2 j b a its (List.getElem?_eq_some_iff.mp e).1 e).2
      omega
    · have I' : Inv X pins σ H { s with heap := h', toks := tk } := I.turnedL (ch := zCh N D S) (fun b o hb e => k b o (by
        have : ¬ ((b : Nat) = D ∨ ((N : Nat) ≤ b ∧ b ≤ N + S.length + 2)) := fun q => hb (zCh_mem.mpr q)
        by_cases z : (b : Nat) < N
        · exact .inl z
        · exact .inr (Nat.lt_of_not_le fun z2 => this (.inr ⟨Nat.le_of_not_lt z, z2⟩))) e) hf
      exact wpAny_pure (hR _ H vs acc c I' (k D _ (.inr hD) hSD) rv hai hp)
  | succ m ih =>
    rintro i s acc c H vs hm hi I hf ⟨v, f, hv, zs⟩ si hSD rv hai hp hR
    have hlt : i < n := by omega
    have Dlt : D < s.heap.objs.size := Heap.lt_size hSD
    refine codeAny_builtin F.entry_extend_loop ?_
    rw [Around.under_plainId F.plain_extend_loop _]
    show wpAny _ A.in1 (pyNext (.ref (N + S.length + 2)) >>= _) _ _ s
    refine wpAny_bind (zipN_next (A := A.in1) hh ap hS hsz zs hv si (Nat.lt_trans hD Dlt) (fun j b a its e => Nat.le_of_lt (Nat.lt_of_lt_of_le hlt (len j b a its e))) (fun xs h' tk v' f' d z hv' si' t k => ?_) fun ⟨j, b, a, its, e, l⟩ h' tk k => ?_)
    · generalize hT : s.heap.objs.size = T at *
      have new : ObjOk X.prog X.w (upd H T (.tup (yv i))) h' T (.tup (yv i)) := ⟨hyl i, xs, row i xs hlt d, ⟨_, t, rfl, _, rfl⟩⟩
      have I1 : Inv X pins σ (upd H T (.tup (yv i))) { s with heap := h', toks := tk } := I.turnedNew (ch := zCh N D S) (fun b o hb e => k b o (by
        have : ¬ ((b : Nat) = D ∨ ((N : Nat) ≤ b ∧ b ≤ N + S.length + 2)) := fun q => hb (zCh_mem.mpr q)
        by_cases z : (b : Nat) < N
        · exact .inl z
        · exact .inr (Nat.lt_of_not_le fun z2 => this (.inr ⟨Nat.le_of_not_lt z, z2⟩))) e) hf (Nat.le_of_eq hT) new
      have hn0 : H T = none := I.hok.fresh (Nat.le_of_eq hT)
      have hf1 : ∀ b ∈ zCh N D S, FpOk X pins (upd H T (.tup (yv i))) b := fun b hb => by
        refine ⟨?_, (hf b hb).2⟩
        rw [upd_ne (show b ≠ T from fun q => by
          subst q
          rcases zCh_mem.mp hb with q | q
          · rw [q] at Dlt; exact Nat.lt_irrefl _ Dlt
          · have h2 : (b : Nat) ≤ N + S.length + 2 := q.2
            have h3 : (D : Nat) < b := Dlt
            exact absurd (Nat.lt_of_lt_of_le (Nat.lt_trans hD h3) h2) (Nat.lt_irrefl _))]
        exact (hf b hb).1
      have hSD1 : h'.get? D = some (lsO acc c) := k D _ (.inr hD) hSD
      show wpAny _ A.in1 (updateSeq D (·.push (.ref T)) >>= _) _ _ _
      refine wpAny_bind ?_
      have oth : ∀ b o, b ≠ D → h'.get? b = some o → (h'.update D (Obj.mapSeq (·.push (Value.ref T)))).get? b = some o := fun b o hb e => (Heap.get?_update_other _ _ (Ne.symm hb)).trans e
      refine wpAny_updateSeq hSD1 rfl (wpAny_pure ⟨plainId_quiet F.plain_extend_loop _, ih (i + 1) _ (acc.push (.ref T)) _ (upd H T (.tup (yv i))) (vs ++ [.ref T]) (by omega) hlt
        (I1.turnedL (t' := tk) (ch := [D]) (fun b o hb e => oth b o (by simpa using hb) e) fun b hb => hf1 b (by rw [List.mem_singleton.mp hb]; exact zCh_mem.mpr (.inl rfl))) hf1
        ⟨v', f', hv', oth _ _ (by omega) z.z, let ⟨x, q⟩ := z.ti; ⟨x, oth _ _ (by omega) q⟩, let ⟨ws, x, l, q⟩ := z.to; ⟨ws, x, l, oth _ _ (by omega) q⟩⟩
        (si'.other ap (c := D) (by omega) oth) (Heap.get?_update_self _ hSD1 rfl) (by rw [Array.toList_push]; exact rv.append (.cons rfl .nil)) (by rw [Array.size_push, hai]) (hP i H vs T hlt hp hn0) hR⟩)
        (by rw [hai]; omega) (by show (acc.push _).size ≤ sizeLine + 1; rw [Array.size_push, hai]; omega)
    · have := len j b a its e
      omega
/-- all of a zip, gathered -/
theorem collect_zip {S : Srcs} {N n : Nat} {yv : Nat → List V} {s : Shared} {H : Hp} {Q : List Value → Shared → Prop} {E : Value → Shared → Prop} (hh : A.handled = none) (ap : Apart N S) (hS : 0 < S.length) (hsz : S.length ≤ sizeLine) (hn : n ≤ sizeLine)
    (len : ∀ (j : Nat) (b : Bool) (a : Addr) (its : List Value), S[j]? = some (b, a, its) → n ≤ its.length) (ex : ∃ (j : Nat) (b : Bool) (a : Addr) (its : List Value), S[j]? = some (b, a, its) ∧ n = its.length)
    (row : ∀ i xs, i < n → Drew S i S.length xs → Vals (yv i) xs) (hyl : ∀ i, (yv i).length ≤ sizeLine)
    (P : Nat → Hp → List V → Prop) (hP : ∀ (i : Nat) (H : Hp) (vs : List V) (T : Addr), i < n → P i H vs → H T = none → P (i + 1) (upd H T (.tup (yv i))) (vs ++ [.ref T]))
    (I : Inv X pins σ H s) (hf : ∀ b : Addr, (N ≤ b ∧ b ≤ N + S.length + 2) → FpOk X pins H b) (zs : ZS N S .none false s.heap) (si : SI N S (fun _ => 0) s.heap) (hp : P 0 H [])
    (hQ : ∀ s' H' vs' us, Inv X pins σ H' s' → Vals vs' us → us.length = n → P n H' vs' → Q us s') : wpAny (model X.prog X.w) A (collect (.ref (N + S.length + 2))) Q E s := by
  have zlt : N + S.length + 2 < s.heap.objs.size := Heap.lt_size zs.z
  have hSI : s.heap.objs.size ≠ N + S.length + 2 := Nat.ne_of_gt zlt
  unfold collect
  refine wpAny_bind (wpAny_runValue (codeAny_builtin F.entry_proto_collect ?_))
  rw [Around.under_plainId F.plain_proto_collect _]
  show wpAny _ A.in1 (newList [] >>= fun l => again (.builtin "list.__iadd__" ⟨[l, .ref (N + S.length + 2)], []⟩)) _ _ s
  refine wpAny_bind (wpAny_newObj_type ?_)
  refine wpAny_pure ⟨plainId_quiet F.plain_list_iadd _, codeAny_builtin F.entry_list_iadd ?_⟩
  rw [Around.under_plainId F.plain_list_iadd _]
  generalize hD : s.heap.objs.size = D at *
  have kp1 : ∀ b o, s.heap.get? b = some o → (s.heap.push { cls := .type "list", data := .seq ([] : List Value).toArray }).get? b = some o := fun b o e => Heap.get?_push_of_some _ e
  have zs1 : ZS N S .none false (s.heap.push { cls := .type "list", data := .seq ([] : List Value).toArray }) := zs.other fun b o _ e => kp1 b o e
  have si1 : SI N S (fun _ => 0) (s.heap.push { cls := .type "list", data := .seq ([] : List Value).toArray }) := fun j b a its e => ⟨isItr_at (si j b a its e).1 fun o q => kp1 _ o q, isSq_at (si j b a its e).2 fun o q => kp1 _ o q⟩
  have I1 : Inv X pins σ H { s with heap := s.heap.push { cls := .type "list", data := .seq ([] : List Value).toArray } } := I.kept (t' := s.toks) kp1
  have fD : FpOk X pins H D := I.fpOk (Nat.le_of_eq hD) (I.hok.fresh (Nat.le_of_eq hD))
  have hf1 : ∀ b ∈ zCh N D S, FpOk X pins H b := fun b hb => by
    rcases zCh_mem.mp hb with q | q
    · rw [q]; exact fD
    · exact hf b q
  show wpAny _ A.in1 (Builtin.List.listExtendWith (.ref D) (.ref (N + S.length + 2)) (.ref D)) _ _ _
  unfold Builtin.List.listExtendWith
  have ty : Shared.TypeIs { s with heap := s.heap.push { cls := .type "list", data := .seq ([] : List Value).toArray } } (.ref (N + S.length + 2)) "zip" := zipN_type (s := { s with heap := s.heap.push { cls := .type "list", data := .seq ([] : List Value).toArray } }) zs1
  refine wpAny_bind (wpAny_typeOf ty ?_)
  have h1 : Builtin.List.listSameRef (.ref D) (.ref (N + S.length + 2)) = false := by simp [Builtin.List.listSameRef, hSI]
  have h2 : (Value.type "zip" == Value.type "list") = false := by decide
  have h3 : (Value.type "zip" == Value.type "tuple") = false := by decide
  simp only [h1, h2, h3, Bool.or_false, Bool.false_eq_true, if_false]
  refine wpAny_bind (zip_self zs1 ?_)
  refine wpAny_bind (wpAny_holding ?_)
  unfold Builtin.List.listLengthHint
  refine wpAny_bind (wpAny_specialOf ty nolen_zip ?_)
  show wpAny _ A.in1 (specialOf (Value.ref (N + S.length + 2)) (Str.ofString "__length_hint__") >>= _) _ _ _
  refine wpAny_bind (wpAny_specialOf ty nohint_zip ?_)
  refine wpAny_pure ?_
  show wpAny _ A.in1 (rule "list.extend.makes-room" >>= fun _ => Builtin.List.listTouch (.ref D) >>= fun _ =>
    again (.builtin "list.extend.loop" ⟨[.ref D, .ref (N + S.length + 2), .ref D], []⟩)) _ _ _
  refine wpAny_bind (wpAny_rule ?_)
  have hS1 : (s.heap.push { cls := .type "list", data := .seq ([] : List Value).toArray }).get? D = some { cls := .type "list", data := .seq ([] : List Value).toArray } := by rw [← hD]; exact Heap.get?_push_size _ rfl
  refine wpAny_bind ?_
  show wpAny _ A.in1 (updateSeq D (·.push .none) >>= fun _ => updateSeq D (·.pop)) _ _ _
  refine wpAny_bind (wpAny_updateSeq hS1 rfl ?_)
  have hS2 := Heap.get?_update_self (Obj.mapSeq (·.push Value.none)) hS1 rfl
  refine wpAny_updateSeq hS2 rfl ?_
  have hS3 := Heap.get?_update_self (Obj.mapSeq (·.pop)) hS2 rfl
  have oth : ∀ b o, b ≠ D → (s.heap.push { cls := .type "list", data := .seq ([] : List Value).toArray }).get? b = some o →
      (((s.heap.push { cls := .type "list", data := .seq ([] : List Value).toArray }).update D (Obj.mapSeq (·.push Value.none))).update D (Obj.mapSeq (·.pop))).get? b = some o :=
    fun b o hb e => (Heap.get?_update_other _ _ (Ne.symm hb)).trans ((Heap.get?_update_other _ _ (Ne.symm hb)).trans e)
  have I3 : Inv X pins σ H { s with heap := ((s.heap.push { cls := .type "list", data := .seq ([] : List Value).toArray }).update D (Obj.mapSeq (·.push Value.none))).update D (Obj.mapSeq (·.pop)) } := I.kept (t' := s.toks) fun b o e => oth b o (fun z => by
    have := Heap.lt_size e
    rw [z, hD] at this
    exact Nat.lt_irrefl _ this) (kp1 b o e)
  refine wpAny_pure ⟨plainId_quiet F.plain_extend_loop _, extend_zip (n := n) (by simp [hh]) ap hS hsz hn len ex row hyl zlt P hP (n - 0) 0 _ #[] _ H [] rfl (Nat.zero_le _)
    I3 hf1
    ⟨.none, false, .inl rfl, oth _ _ (by omega) zs1.z, let ⟨x, q⟩ := zs1.ti; ⟨x, oth _ _ (by omega) q⟩, let ⟨ws, x, l, q⟩ := zs1.to; ⟨ws, x, l, oth _ _ (by omega) q⟩⟩
    (si1.other ap (c := D) (by omega) oth) hS3 .nil rfl hp fun s' H' vs' acc' c' I' hD' rv' hl' hp' => ?_⟩
  show wpAny _ A (load D >>= _) _ _ s'
  refine wpAny_bind (wpAny_load hD' ?_)
  exact wpAny_pure (hQ s' H' vs' acc'.toList I' rv' (by rw [Array.length_toList]; exact hl') hp')
end
section
variable {X : Cx}
theorem Nw.after {K : PySem.W.Frag} {H H1 H' : Hp} {Z Z1 Z' : Addr → Prop} {z : T} {v : V} {os : List Addr} (n : Nw K H1 Z1 z v H' Z' os) (e : Ext [] H Z H1 Z1 []) : Nw K H Z z v H' Z' os := ⟨n.rep, n.own, e.trans n.ext, n.zt⟩
theorem zipT_get {ts us : List T} {i : Nat} (h : i < min ts.length us.length) : (zipT ts us)[i]? = some (.tup [ts[i]'(by omega), us[i]'(by omega)]) := by
  have hz : i < (ts.zip us).length := by simp; omega
  unfold zipT
  simp [List.getElem?_eq_getElem hz]
theorem pe_sortZip (hc : X.calm = true) (hu : X.A.units + 80 < cLine) {e1 e2 : Expr} {ta : TA} {p p2 pos pos2 : Pos} (hg : Gl X "sorted") (hm : X.mg "sorted" = none) (hg2 : Gl X "zip") (hm2 : X.mg "zip" = none) (ha : PA X [e1, e2] ta)
    (hs : starEach [e1, e2] X.env = (false, eval e1 X.env) :: starEach [e2] X.env) (hpl : (backTo pos2 (starEach [e2] X.env)).any (·.1) = false) :
    PE X (.Call (.Name "sorted" p) [.Call (.Name "zip" p2) [e1, e2] [] pos2] [] pos) (fun σ H Q => ta σ H fun vs H1 => ∃ (a b : Addr) (ka kb : Bool) (xs ys : List V) (ts us : List T) (Z : Addr → Prop), vs = [.ref a, .ref b] ∧ SqB X.K ka H1 a xs ∧ SqB X.K kb H1 b ys ∧
      Zt H1 Z ∧ Reps X.K H1 Z ts [] xs ∧ Reps X.K H1 Z us [] ys ∧ sortable (zipT ts us) ∧ ∀ v H' Z' os', Nw X.K H1 Z (.lst true ((zipT ts us).mergeSort (PySem.W.dataLe false data))) v H' Z' os' → Q v H') := by
  refine ⟨fun pins s σ H Q I h => ?_⟩
  refine wpAny_Call_Name_kw (ld_blt I hg hm rfl ?_ (by decide) (by decide))
  refine PyProof.Rows.callWith_builtin1 (Calls.spliced_cons (thn (Call_ (ld_blt I hg2 hm2 PyProof.Rows.boot_zip (PyProof.Rows.callWith_type1 (thn (ha.run pos2 pins s σ H _ I h) fun us0 s1 ⟨vs, H1, I1, r1, q1⟩ => ?_) hs hpl))) fun v s2 hv => Calls.spliced_nil hv)) rfl rfl
  obtain ⟨a, b, ka, kb, xs, ys, ts, us, Z, rfl, sa, sb, zt, ra, rb, hso, q⟩ := q1
  obtain ⟨u, v, rfl, ru, rv⟩ := Vals.two r1
  cases ru
  cases rv
  obtain ⟨ita, rva, pa⟩ := sqB I1 sa
  obtain ⟨itb, rvb, pb⟩ := sqB I1 sb
  have two : ∀ {α : Type} {x y w : α} {j : Nat}, [x, y][j]? = some w → (j = 0 ∧ w = x) ∨ (j = 1 ∧ w = y) := fun {α x y w j} e => by
    match j, e with
    | 0, e => exact .inl ⟨rfl, by simpa using e.symm⟩
    | 1, e => exact .inr ⟨rfl, by simpa using e.symm⟩
    | j + 2, e => simp at e
  have hz : (zipT ts us).length = min xs.length ys.length := by unfold zipT; simp [ra.length, rb.length]
  have hzl : min xs.length ys.length ≤ sizeLine := by
    refine Nat.le_trans (Nat.min_le_left _ _) ?_
    cases ka with
    | true => exact (I1.list sa).choose_spec.2.2
    | false => exact (I1.tuple sa).choose_spec.2.2
  have la : ita.length = xs.length := rva.length.symm
  have lb : itb.length = ys.length := rvb.length.symm
  have sq : ∀ (j : Nat) (b' : Bool) (a' : Addr) (its : List Value), ([(ka, a, ita), (kb, b, itb)] : Srcs)[j]? = some (b', a', its) → IsSq b' s1.heap a' its.toArray := fun j b' a' its e => by
    rcases two e with ⟨_, e⟩ | ⟨_, e⟩ <;> cases e
    · exact pa
    · exact pb
  refine zip_beginsN (S := [(ka, a, ita), (kb, b, itb)]) (by simp) (by show 2 ≤ sizeLine; decide) sq fun h' z => ?_
  have I2 : Inv X pins σ H1 { s1 with heap := h' } := I1.kept (t' := s1.toks) z.kp
  have ap : Apart s1.heap.objs.size [(ka, a, ita), (kb, b, itb)] := fun j b' a' its e => isSq_lt (sq j b' a' its e)
  refine PySem.W.sorted_anyS (R := fun us' s' => us'.length ≤ sizeLine ∧ ∃ H' vs' Z2, L2.Inv X pins σ H' s' ∧ Vals vs' us' ∧ Ext [] H1 Z H' Z2 [] ∧ Zt H' Z2 ∧ Reps X.K H' Z2 (zipT ts us) [] vs')
    (fun Q' E' k => collect_zip (A := X.A.in1) (n := min xs.length ys.length) (yv := fun i => [xs.getD i .non, ys.getD i .non]) (I1.ok.hd hc) ap (by simp) (by show 2 ≤ sizeLine; decide) hzl (fun j b' a' its e => ?_) ?_ (fun i ws hi d => ?_) (fun i => by show 2 ≤ sizeLine; decide)
      (fun i H' vs' => ∃ Z2, Ext [] H1 Z H' Z2 [] ∧ Zt H' Z2 ∧ Reps X.K H' Z2 ((zipT ts us).take i) [] vs') (fun i H' vs' T hi ⟨Z2, ex, zt2, r⟩ hT => ?_) I2 (fun c hc' => I1.fpOk hc'.1 (I1.hok.fresh hc'.1)) z.zs (fun j b' a' its e => ⟨isItr_new (z.it j b' a' its e), isSq_at (sq j b' a' its e) fun o qq => z.kp _ o qq⟩)
      ⟨Z, Ext.refl, zt, by simp [Reps]⟩ fun s' H' vs' us' I' rv' l' ⟨Z2, ex, zt2, r⟩ => k us' s' ⟨by omega, H', vs', Z2, I', rv', ex, zt2, by rw [List.take_of_length_le (by omega)] at r; exact r⟩)
    fun us' s' ⟨l', H', vs', Z2, I', rv', ex, zt2, r⟩ => ⟨l', sorted_core hu I' zt2 rv' l' r hso fun v H'' Z'' os n => q v H'' Z'' os (n.after ex)⟩
  · rcases two e with ⟨_, e⟩ | ⟨_, e⟩ <;> cases e <;> omega
  · by_cases hle : xs.length ≤ ys.length
    · exact ⟨0, ka, a, ita, rfl, by omega⟩
    · exact ⟨1, kb, b, itb, rfl, by omega⟩
  · have d1 := d.1
    have e0 := (d.2 0 ka a ita (by simp) rfl).1
    have e1' := (d.2 1 kb b itb (by simp) rfl).1
    match ws, d1, e0, e1' with
    | [w0, w1], _, e0, e1' => exact .cons (val_get rva (by simpa using e0)) (.cons (val_get rvb (by simpa using e1')) .nil)
    | [], d1, _, _ => simp at d1
    | [_], d1, _, _ => simp at d1
    | _ :: _ :: _ :: _, d1, _, _ => simp at d1
  · have hi1 : i < ts.length := by rw [ra.length]; omega
    have hi2 : i < us.length := by rw [rb.length]; omega
    have ex1 := ra.keep (H' := H') (Z' := Z2) ex.zz (fun a u _ e => ex.same a u e (by simp)) ts fun a m => absurd m (by simp)
    have ex2 := rb.keep (H' := H') (Z' := Z2) ex.zz (fun a u _ e => ex.same a u e (by simp)) us fun a m => absurd m (by simp)
    have nw : Nw X.K H' Z2 (.tup [ts[i], us[i]]) (.ref T) (upd H' T (.tup [xs.getD i .non, ys.getD i .non])) (fun a => Z2 a ∨ a = T) [] := Nw.tup (.mk1 (reps_getD ex1 hi1) (.mk1 (reps_getD ex2 hi2) .mk0)) zt2 hT
    refine ⟨fun a => Z2 a ∨ a = T, ex.trans nw.ext, nw.zt, ?_⟩
    rw [List.take_add_one, zipT_get (by omega)]
    exact (r.keep nw.ext.zz (fun a u _ e => nw.ext.same a u e (by simp)) _ fun a m => absurd m (by simp)).append (.mk1 nw.rep .mk0)
theorem ve_szip {Φ : Nat → Spec} (hc : X.calm = true) (hu : X.A.units + 80 < cLine) {a b : Expr} {A B : E} {p p2 pos pos2 : Pos} (hg : Gl X "sorted") (hm : X.mg "sorted" = none) (hg2 : Gl X "zip") (hm2 : X.mg "zip" = none) (ha : PE X a (tV X.K (wpE Φ A))) (hb : PE X b (tV X.K (wpE Φ B))) (hs : notStar a = true ∧ notStar b = true) :
    PE X (.Call (.Name "sorted" p) [.Call (.Name "zip" p2) [a, b] [] pos2] [] pos) (tV X.K (wpE Φ (.szip A B))) := by
  refine (pe_sortZip hc hu hg hm hg2 hm2 (pa_cons ha (pa_cons hb pa_nil (star_cons hs.2)) (star_cons hs.1)) (star_cons hs.1) (star_any (by simp [hs.2]))).imp fun σ H Q ⟨Γ, Z, Os, Qt, ok, w, k⟩ => ?_
  simp only [wpE] at w
  refine two (r := fun v u H1 Q => ∃ (a b : Addr) (ka kb : Bool) (xs ys : List V) (ts us : List T) (Z : Addr → Prop), [v, u] = [.ref a, .ref b] ∧ SqB X.K ka H1 a xs ∧ SqB X.K kb H1 b ys ∧
      Zt H1 Z ∧ Reps X.K H1 Z ts [] xs ∧ Reps X.K H1 Z us [] ys ∧ sortable (zipT ts us) ∧ ∀ v H' Z' os', Nw X.K H1 Z (.lst true ((zipT ts us).mergeSort (PySem.W.dataLe false data))) v H' Z' os' → Q v H') ok w fun x y Γ2 v u H2 Z2 Os2 o1 o2 q ok2 r1 r2 e => ?_
  obtain ⟨ts, us, i1, i2, f1, f2, hso, q⟩ := q
  have src : ∀ {x : T} {ts : List T} {o : List Addr} {v : V}, items x = some ts → isFs ts = true → Rep X.K H2 Z2 x o v → ∃ a b vs, v = .ref a ∧ SqB X.K b H2 a vs ∧ Reps X.K H2 Z2 ts [] vs := fun {x ts o v} i f r => by
    cases x <;> simp only [items, Option.some.injEq, reduceCtorEq] at i
    · subst i
      obtain ⟨a, vs, e, fz, rs⟩ := r.tup_f f
      exact ⟨a, false, vs, e, fz.sq, rs⟩
    · subst i
      obtain ⟨a, vs, e, fz, rs⟩ := r.lst_inv f
      exact ⟨a, true, vs, e, .inl fz, rs⟩
  obtain ⟨a, ka, xs, rfl, sa, ra⟩ := src i1 f1 r1
  obtain ⟨b, kb, ys, rfl, sb, rb⟩ := src i2 f2 r2
  exact ⟨a, b, ka, kb, xs, ys, ts, us, Z2, rfl, sa, sb, ok2.zt, ra, rb, hso, fun v' H' Z' os' n => k _ _ _ _ _ _ _ q (n.res ok2 e)⟩
end
end PL

end
section
set_option maxHeartbeats 4000000
/-! PLo: items stored in lists, dicts; appends; statements. -/
namespace PL
open PySem PySem.Spec L2
open PyProof.Rows hiding St

/-! ### a dict's item stored -/
def putW (t : T) (w : V) (ks : List T) (vv : List V) : List V := if (keyIx t ks).isSome then List.zipWith (fun x y => if eqT x t then w else y) ks vv else vv ++ [w]
theorem put_map {κ : Type} [DecidableEq κ] {t : T} {k : κ} (f : T → Option κ) (he : ∀ {x a}, f x = some a → eqT x t = decide (a = k)) (w : V) : ∀ {ks : List T} {kk : List κ} {vv : List V}, ks.map f = kk.map some → kk.length = vv.length →
    (kk.zip vv).map (fun kv => if kv.1 = k then (kv.1, w) else kv) = kk.zip (List.zipWith (fun x y => if eqT x t then w else y) ks vv)
  | [], kk, vv, h, l => by
    have : kk = [] := by simpa using h.symm
    subst this
    rfl
  | x :: ks, [], vv, h, l => by simp at h
  | x :: ks, a :: kk, [], h, l => by simp at l
  | x :: ks, a :: kk, v :: vv, h, l => by
    simp only [List.map_cons, List.cons.injEq] at h
    have e := he h.1
    have ih := put_map f he w (ks := ks) (kk := kk) (vv := vv) h.2 (by simpa using l)
    simp only [List.zip_cons_cons, List.map_cons, List.zipWith_cons_cons]
    rw [e, ih]
    by_cases ha : a = k <;> simp [ha]
theorem put_any {κ : Type} [DecidableEq κ] {t : T} {k : κ} (f : T → Option κ) (he : ∀ {x a}, f x = some a → eqT x t = decide (a = k)) {ks : List T} {kk : List κ} {vv : List V} (h : ks.map f = kk.map some) (l : kk.length = vv.length) (w : V) :
    putK (kk.zip vv) k w = (if (keyIx t ks).isSome then kk else kk ++ [k]).zip (putW t w ks vv) := by
  have e1 : ((kk.zip vv).any fun kv => decide (kv.1 = k)) = (keyIx t ks).isSome := by
    rw [valV_any, val_k1 f he h l]
    cases q : keyIx t ks with
    | none => rfl
    | some j =>
      have hj : j < ks.length := by
        obtain ⟨hlt, _⟩ := List.findIdx?_eq_some_iff_getElem.mp q
        exact hlt
      have hl : ks.length = kk.length := by have := congrArg List.length h; simpa using this
      simp [show j < vv.length by omega]
  unfold putK putW
  rw [e1]
  split
  · exact put_map f he w h l
  · rw [List.zip_append l]
    rfl
section
variable {X : Cx} {pins : List (Addr × Obj)} {σ : L2.St} {H : Hp} {s : Shared}
theorem putW_len {t : T} {w : V} {ks : List T} {vv : List V} (l : ks.length = vv.length) : (putKs t ks).length = (putW t w ks vv).length := by
  unfold putKs putW
  split <;> simp [l]
/-- d[k] = v: the state, what it needs, the dict behind it -/
theorem dic_put {Z : Addr → Prop} {a : Addr} {ks : List T} {vv : List V} {t : T} {os : List Addr} {y w : V} (I : Inv X pins σ H s) (d : DicAt (fun u => H a = some u) ks vv) (r : Rep X.K H Z t os y) (f : keyFit t ks = true) (hz : ks.length < sizeLine) :
    ∃ H1 u, Inv X pins σ H1 s ∧ DPut H1 a y w (upd H a u) ∧ DicAt (fun u' => u' = u) (putKs t ks) (putW t w ks vv) := by
  have lw := putW_len (t := t) (w := w) d.len
  rcases fit_cases f with ⟨k, hk, n⟩ | ⟨k, hk, n⟩
  · have ey := r.key1 hk
    subst ey
    have fin : ∀ (kk : List Key), allK1 ks kk → kk.length = vv.length → ∀ kk', kk' = (if (keyIx t ks).isSome then kk else kk ++ [k]) → allK1 (putKs t ks) kk' ∧ kk'.length = (putW t w ks vv).length := fun kk h1 h2 kk' e => by
      have : allK1 (putKs t ks) kk' := by
        unfold putKs
        rw [e]
        split
        · exact h1
        · exact allK1_snoc h1 hk
      exact ⟨this, by rw [← allK1_len this, lw]⟩
    rcases d with ⟨kk, h1, h2, h3⟩ | ⟨kk, h1, h2, h3⟩
    · refine ⟨H, _, I, DPut.k h3 (by simp [← allK1_len h1]; omega), .inl ⟨_, (fin kk h1 h2 _ rfl).1, (fin kk h1 h2 _ rfl).2, ?_⟩⟩
      rw [put_any k1 (fun e => eqT_k1 e hk) (allK1_map h1) h2]
    · obtain ⟨rfl, rfl⟩ := allKT_none h1 n
      have : vv = [] := by cases vv with | nil => rfl | cons v vv => simp at h2
      subst this
      refine ⟨upd H a (.dK []), .dK [(k, w)], Inv.swapK I h3, ?_, .inl ⟨[k], ⟨hk, trivial⟩, rfl, rfl⟩⟩
      refine .inl ⟨[], k, upd_same, rfl, by show 0 < sizeLine; decide, ?_⟩
      funext b
      by_cases e : b = a
      · rw [e, upd_same, upd_same]; rfl
      · rw [upd_ne e, upd_ne e, upd_ne e]
  · obtain ⟨b, rfl, hb⟩ := r.keyT hk
    have fin : ∀ (kk : List (List Key)), allKT ks kk → kk.length = vv.length → ∀ kk', kk' = (if (keyIx t ks).isSome then kk else kk ++ [k]) → allKT (putKs t ks) kk' ∧ kk'.length = (putW t w ks vv).length := fun kk h1 h2 kk' e => by
      have : allKT (putKs t ks) kk' := by
        unfold putKs
        rw [e]
        split
        · exact h1
        · exact allKT_snoc h1 hk
      exact ⟨this, by rw [← allKT_len this, lw]⟩
    rcases d with ⟨kk, h1, h2, h3⟩ | ⟨kk, h1, h2, h3⟩
    · obtain ⟨rfl, rfl⟩ := allK1_none h1 n
      have : vv = [] := by cases vv with | nil => rfl | cons v vv => simp at h2
      subst this
      refine ⟨upd H a (.dT []), .dT [(k, w)], Inv.swapT I h3, ?_, .inr ⟨[k], ⟨hk, trivial⟩, rfl, rfl⟩⟩
      refine .inr ⟨[], k, b, upd_same, rfl, ?_, by show 0 < sizeLine; decide, ?_⟩
      · rw [upd_ne (ne_of hb h3 (fun z => nomatch z))]; exact hb
      funext b
      by_cases e : b = a
      · rw [e, upd_same, upd_same]; rfl
      · rw [upd_ne e, upd_ne e, upd_ne e]
    · refine ⟨H, _, I, DPut.t h3 hb (by simp [← allKT_len h1]; omega), .inr ⟨_, (fin kk h1 h2 _ rfl).1, (fin kk h1 h2 _ rfl).2, ?_⟩⟩
      rw [put_any kT (fun e => eqT_kT e hk) (allKT_map h1) h2]
end
end PL

end
section
set_option maxHeartbeats 4000000
/-! PLp: statements. -/
namespace PL
open PySem PySem.Spec L2
open PyProof.Rows hiding St

/-! ### list.extend of a list or a tuple -/
theorem extend_tup (l : Addr) (items : Array Value) (n : Nat) (b : Addr) (items2 : Array Value) (n2 : Nat) (d : Option Addr) (sl : Array (Option Value)) (hs0 : ¬(!items.isEmpty && Builtin.List.listTooLong (items.size + items2.size)) = true) (hs1 : items.size ≤ sizeLine) (hs2 : items.size + items2.size ≤ sizeLine + 1) :
    Meets (Builtin.«list.extend» ⟨[.ref l, .ref b], []⟩) (fun _ R s => s.heap.get? l = some { cls := .type "list", dict := none, data := .seq items n, slots := #[] } ∧ s.heap.get? b = some { cls := .type "tuple", dict := d, data := .seq items2 n2, slots := sl } ∧ R (.ok (.ret Value.none)) { s with heap := s.heap.update l (Obj.mapSeq fun x => x ++ items2), toks := s.toks }) :=
  .of_wp fun prog w A R s h => by
    obtain ⟨hp, g, d, tk, os⟩ := s; obtain ⟨hl, hb, h⟩ := h; have f1 := AutoSeq1.idx_int; have f2 := AutoSeq1.sub_tuple_tuple; have f3 := AutoSeq1.sub_list_list; have f4 := AutoSeq1.sub_tuple_list; have f5 := AutoSeq1.sub_list_tuple;
    have hz' : (items ++ items2).size ≤ sizeLine + 1 := by rw [Array.size_append]; exact hs2
    wp_walk using (wpAny_updateSeq hl rfl (hz := hs1) (_hz' := hz')), AutoSeq1.wpAny_loadPart' hl, AutoSeq1.wpAny_loadPart' hb; exact ⟨_, rfl, h⟩
section
variable {X : Cx}
def rExtP : V → List V → Hp → VK → Prop := fun x vs H Q => ∃ l b xs zs, x = .ref l ∧ vs = [.ref b] ∧ H l = some (.lst xs) ∧ (Rd H b (.lst zs) ∨ H b = some (.tup zs)) ∧ xs.length + zs.length ≤ sizeLine ∧ Q .non (upd H l (.lst (xs ++ zs)))
theorem mt_extP : MtR X "list.extend" rExtP := by
  intro pins s σ H x vs v us Q I rx rv h
  obtain ⟨l, b, xs, zs, rfl, rfl, hH, hB, hz, q⟩ := h
  cases rx
  obtain ⟨u, rfl, ru⟩ := rv.one
  cases ru
  obtain ⟨z, its, n, r, hl, e⟩ := I.lstM hH
  rcases hB with hB | hB
  · obtain ⟨z2, its2, n2, r2, hl2, e2⟩ := Inv.rdL I hB
    have hsz : its.toArray.size + its2.toArray.size ≤ sizeLine := by rw [List.size_toArray, List.size_toArray]; omega
    have hlong : ¬ (!its.toArray.isEmpty && Builtin.List.listTooLong (its.toArray.size + its2.toArray.size)) = true := by
      rw [notLongL hsz, Bool.and_false]
      exact Bool.false_ne_true
    refine call_meets F.slot_list_extend ⟨_, e, rfl⟩ F.entry_list_extend (F.args_list_extend_2 _ _)
      (AutoSeq1.list_extend_list_list_0 l its.toArray n b its2.toArray n2 hlong (by rw [List.size_toArray]; omega) (by omega)) ⟨e, e2, ?_⟩
    refine ⟨.non, _, I.lset (its' := its ++ its2) hH e (by simp) (r.append r2) ?_, rfl, q⟩
    rw [List.length_append]
    omega
  · obtain ⟨its2, r2, p2, hz2⟩ := I.tuple (.inl (.inl hB))
    obtain ⟨⟨oc, od, odt, osl⟩, e2, hc2, n2, hd2⟩ := (show s.heap.IsTuple b its2.toArray from p2)
    simp only at hc2 hd2
    subst hc2 hd2
    have hl2 := r2.length
    have hsz : its.toArray.size + its2.toArray.size ≤ sizeLine := by rw [List.size_toArray, List.size_toArray]; omega
    have hlong : ¬ (!its.toArray.isEmpty && Builtin.List.listTooLong (its.toArray.size + its2.toArray.size)) = true := by
      rw [notLongL hsz, Bool.and_false]
      exact Bool.false_ne_true
    refine call_meets F.slot_list_extend ⟨_, e, rfl⟩ F.entry_list_extend (F.args_list_extend_2 _ _)
      (extend_tup l its.toArray n b its2.toArray n2 od osl hlong (by rw [List.size_toArray]; omega) (by omega)) ⟨e, e2, ?_⟩
    refine ⟨.non, _, I.lset (its' := its ++ its2) hH e (by simp) (r.append r2) ?_, rfl, q⟩
    rw [List.length_append]
    omega
/-- o[i] = v, a list or a dict -/
def rSetP (K : PySem.W.Frag) : TSet := fun o i v H Q => (∃ p xs k j, o = .ref p ∧ i = .int k ∧ H p = some (.lst xs) ∧ ixN xs.length k = some j ∧ Q (upd H p (.lst (xs.set j v)))) ∨
  (∃ a ks vv t Z os, o = .ref a ∧ DicAt (fun u => H a = some u) ks vv ∧ Rep K H Z t os i ∧ keyFit t ks = true ∧ ks.length < sizeLine ∧ ∀ u, DicAt (fun u' => u' = u) (putKs t ks) (putW t v ks vv) → Q (upd H a u))
theorem set_P (hu : X.A.units + 1 < cLine) : PSet X (rSetP X.K) := by
  intro pins s σ H o i v ov iv u Q I ro ri rv h
  rcases h with h | ⟨a, ks, vv, t, Z, os, rfl, d, r, f, hz, q⟩
  · exact set_list pins s σ H o i v ov iv u Q I ro ri rv h
  · cases (show ov = Value.ref a from ro)
    obtain ⟨H1, u', I1, dp, dd⟩ := dic_put (w := v) I d r f hz
    exact d_setItem hu I1 dp ri rv fun s' I' => ⟨_, I', q u' dd⟩
end

section
variable {K : PySem.W.Frag} {H : Hp} {Z : Addr → Prop}
theorem Reps.setAt : ∀ {ts : List T} {os : List Addr} {vs : List V} {n : Nat} {t : T} {v : V}, Reps K H Z ts os vs → Rep K H Z t [] v → ∃ os2, os2.Sublist os ∧ Reps K H Z (ts.set n t) os2 (vs.set n v)
  | [], os, vs, n, t, v, h, _ => by
    simp only [Reps] at h
    obtain ⟨rfl, rfl⟩ := h
    exact ⟨[], List.Sublist.refl _, by simp [Reps]⟩
  | x :: ts, os, vs, 0, t, v, h, r => by
    simp only [Reps] at h
    obtain ⟨o1, o2, w, vs', rfl, rfl, r1, r2⟩ := h
    exact ⟨o2, List.sublist_append_right _ _, by simp only [List.set_cons_zero, Reps]; exact ⟨[], o2, v, vs', rfl, rfl, r, r2⟩⟩
  | x :: ts, os, vs, n + 1, t, v, h, r => by
    simp only [Reps] at h
    obtain ⟨o1, o2, w, vs', rfl, rfl, r1, r2⟩ := h
    obtain ⟨os2, s2, r3⟩ := r2.setAt (n := n) r
    exact ⟨o1 ++ os2, s2.append_left o1, by simp only [List.set_cons_succ, Reps]; exact ⟨o1, os2, w, _, rfl, rfl, r1, r3⟩⟩
theorem Reps.zipPut {y t : T} {v : V} (r : Rep K H Z t [] v) : ∀ {ks vs : List T} {ws : List V}, Reps K H Z vs [] ws → Reps K H Z (List.zipWith (fun x z => if eqT x y then t else z) ks vs) [] (List.zipWith (fun x z => if eqT x y then v else z) ks ws)
  | [], vs, ws, _ => by simp [Reps]
  | k :: ks, [], ws, h => by
    simp only [Reps] at h
    rw [h.2]
    simp [Reps]
  | k :: ks, x :: vs, ws, h => by
    simp only [Reps] at h
    obtain ⟨o1, o2, w, ws', e1, rfl, r1, r2⟩ := h
    have n := List.append_eq_nil_iff.mp e1.symm
    rw [n.1] at r1
    rw [n.2] at r2
    have ih := Reps.zipPut (y := y) r (ks := ks) r2
    simp only [List.zipWith_cons_cons, Reps]
    refine ⟨[], [], _, _, rfl, rfl, ?_, ih⟩
    split
    · exact r
    · exact r1
theorem Reps.putW {y t : T} {v : V} {ks vs : List T} {ws : List V} (h : Reps K H Z vs [] ws) (r : Rep K H Z t [] v) : Reps K H Z (putVs y t ks vs) [] (PL.putW y v ks ws) := by
  unfold putVs PL.putW
  split
  · exact Reps.zipPut r h
  · have := h.append (us := [t]) (o2 := []) (ws := [v]) (by simp only [Reps]; exact ⟨[], [], v, [], rfl, rfl, r, rfl, rfl⟩)
    simpa using this
end

/-! ### statements -/
def Par (io : List Nat) (σ σ2 : L2.St) : Prop := ∀ i ∈ io, σ2[i]? = σ[i]?
theorem Par.refl {io : List Nat} {σ : L2.St} : Par io σ σ := fun _ _ => rfl
theorem Par.trans {io : List Nat} {σ σ1 σ2 : L2.St} (h : Par io σ σ1) (k : Par io σ1 σ2) : Par io σ σ2 := fun i m => (k i m).trans (h i m)
theorem Keep.par {is io : List Nat} {σ σ2 : L2.St} (h : Keep is σ σ2) (d : ∀ i ∈ is, i ∉ io) : Par io σ σ2 := fun i m => h i fun n => d i n m
/-- the ends of a statement, by plain values and by the heap -/
structure Link (K : PySem.W.Frag) (io : List Nat) (os0 : List Addr) (H : Hp) (Z : Addr → Prop) (σ : L2.St) (De : PL.Ends) (D : L2.Ends) : Prop where
  nx : ∀ Γ' σ' H' Z' Os', De.nx Γ' → Ok K H' Z' Γ' Os' σ' → Ext os0 H Z H' Z' Os'.flatten → Par io σ σ' → D.nx σ' H'
  rt : ∀ t Γ' σ' v H' Z' Os' os, De.rt t Γ' → Ok K H' Z' Γ' Os' σ' → Rep K H' Z' t os v → Own H' Z' (os ++ Os'.flatten) → Ext os0 H Z H' Z' (os ++ Os'.flatten) → Par io σ σ' → D.rt v H'
  bk : ∀ Γ' σ' H' Z' Os', De.bk Γ' → Ok K H' Z' Γ' Os' σ' → Ext os0 H Z H' Z' Os'.flatten → Par io σ σ' → D.bk σ' H'
  ct : ∀ Γ' σ' H' Z' Os', De.ct Γ' → Ok K H' Z' Γ' Os' σ' → Ext os0 H Z H' Z' Os'.flatten → Par io σ σ' → D.ct σ' H'
section
variable {K : PySem.W.Frag} {io : List Nat} {os0 os1 : List Addr} {H H1 : Hp} {Z Z1 : Addr → Prop} {σ σ1 : L2.St} {De : PL.Ends} {D : L2.Ends}
theorem Link.later (l : Link K io os0 H Z σ De D) (e : Ext os0 H Z H1 Z1 os1) (p : Par io σ σ1) : Link K io os1 H1 Z1 σ1 De D :=
  ⟨fun Γ' σ' H' Z' Os' q ok e' p' => l.nx Γ' σ' H' Z' Os' q ok (e.trans e') (p.trans p'), fun t Γ' σ' v H' Z' Os' os q ok r o e' p' => l.rt t Γ' σ' v H' Z' Os' os q ok r o (e.trans e') (p.trans p'),
    fun Γ' σ' H' Z' Os' q ok e' p' => l.bk Γ' σ' H' Z' Os' q ok (e.trans e') (p.trans p'), fun Γ' σ' H' Z' Os' q ok e' p' => l.ct Γ' σ' H' Z' Os' q ok (e.trans e') (p.trans p')⟩
end
def tS (K : PySem.W.Frag) (io : List Nat) (w : PL.Ends → Env → Prop) : TS := fun D σ H => ∃ Γ Z Os De, Ok K H Z Γ Os σ ∧ w De Γ ∧ Link K io Os.flatten H Z σ De D
def swB (value : Expr) (target : Option Expr) (line : Nat) (sc : Scope) : Bool :=
  match value with
  | .ListComp _ _ s p => (match target with
    | some (.Name t pos) => sc.names.lookup t == some .local && pos.line == p.line && !(s.names.any fun (n, k) => n == t && (k == .local || k == .cell))
    | _ => false)
  | _ => false
def plainV : Expr → Bool
  | .ListComp _ _ _ _ => false
  | .SetComp _ _ _ _ => false
  | .DictComp _ _ _ _ _ => false
  | _ => true
theorem swaps_plain {v : Expr} {t : Option Expr} {l : Nat} {env : PySem.Env} (h : plainV v = true) : swapsWith v t l env = pure false := by
  unfold swapsWith
  cases v <;> first | rfl | cases h
theorem swaps_sub {v : Expr} {o i : Expr} {p : Pos} {l : Nat} {env : PySem.Env} : swapsWith v (some (.Subscript o i p)) l env = pure false := by
  unfold swapsWith
  cases v <;> rfl
theorem swaps_tup {v : Expr} {es : List Expr} {k : Nat} {p : Pos} {l : Nat} {env : PySem.Env} : swapsWith v (some (.Tuple es k p)) l env = pure false := by
  unfold swapsWith
  cases v <;> rfl
theorem sole_tup {v : Expr} {es : List Expr} {k : Nat} {p : Pos} {l : Nat} {env : PySem.Env} : swapsWithSole [.Tuple es k p] v l env = pure false := by
  unfold swapsWithSole
  exact swaps_tup (v := v) (es := es) (k := k) (p := p) (l := l) (env := env)
theorem sole_sub {v : Expr} {o i : Expr} {p : Pos} {l : Nat} {env : PySem.Env} : swapsWithSole [.Subscript o i p] v l env = pure false := by
  unfold swapsWithSole
  exact swaps_sub (v := v) (o := o) (i := i) (p := p) (l := l) (env := env)
def notTup : Expr → Bool
  | .Tuple _ _ _ => false
  | _ => true
theorem stores_plain {ts : List Expr} {v : Expr} {env : PySem.Env} (h : notTup v = true) : swappedStores ts v env = pure none := by
  unfold swappedStores
  cases v <;> first | (cases h; done) | skip
  all_goals
    cases ts with
    | nil => rfl
    | cons t ts =>
      cases t <;> first
        | rfl
        | (cases ts <;> rfl)
theorem stores_sub {o i : Expr} {p : Pos} {v : Expr} {env : PySem.Env} : swappedStores [.Subscript o i p] v env = pure none := by
  unfold swappedStores
  cases v <;> rfl
section
variable {X : Cx} {Φ : Nat → Spec} {io : List Nat}
theorem asg_imp {K : PySem.W.Frag} {g : G} {e : E} (hio : ∀ i ∈ gN g, i ∉ io) : ∀ D σ H, tS K io (wpS Φ (.asg g e)) D σ H → tAsg (tV K (wpE Φ e)) (tGT K g) D σ H := fun D σ H ⟨Γ, Z, Os, De, ok, w, l⟩ => by
  simp only [wpS] at w
  refine ⟨Γ, Z, Os, _, ok, w, fun t Γ1 v H1 Z1 Os1 o1 q1 r1 => ?_⟩
  obtain ⟨Γ2, b, q⟩ := q1
  exact ⟨Γ1, Z1, Os1, t, o1, Γ2, r1.ok, r1.rep, r1.own, b, fun σ2 Os2 ok2 sub kp => l.nx Γ2 σ2 H1 Z1 Os2 q ok2 (r1.ext.sub sub) (kp.par hio)⟩
theorem gnm_imp {K : PySem.W.Frag} {i : Nat} : ∀ v σ H Q, tGT K (.nm i) v σ H Q → gName i v σ H Q := fun v σ H Q ⟨Γ, Z, Os, t, os, Γ2, ok, r, o, b, k⟩ => by
  simp only [bindG] at b
  split at b
  · rename_i hl
    cases b
    refine k _ _ (ok.put hl r o) (Ok.put_sub (by rw [ok.lo]; exact hl)) fun j n => ?_
    simp only [gN, List.mem_singleton] at n
    exact List.getElem?_set_ne (Ne.symm n)
  · cases b
theorem tV_mono {K : PySem.W.Frag} {w : ME} {σ : L2.St} {H : Hp} {Q Q' : VK} (h : tV K w σ H Q) (i : ∀ v H, Q v H → Q' v H) : tV K w σ H Q' := by
  obtain ⟨Γ, Z, Os, Qt, ok, w, k⟩ := h
  exact ⟨Γ, Z, Os, Qt, ok, w, fun t Γ' v H' Z' Os' os q r => i _ _ (k t Γ' v H' Z' Os' os q r)⟩
theorem vs_nm {i : Nat} {x : Str} {e : Expr} {E : E} {p pos : Pos} (hN : X.N.Nodup) (hi : X.N[i]? = some x) (hx : Loc X.env.scope x) (hf : X.fn x = true ∨ X.env.scope.names.lookup x = some .local) (he : PE X e (tV X.K (wpE Φ E))) (hs : swapsWith e (some (.Name x p)) pos.line X.env = pure false) (hio : i ∉ io) :
    PS X (.Assign [.Name x p] e pos) (tS X.K io (wpS Φ (.asg (.nm i) E))) := (ps_set hN hi hx he hs hf).imp fun D σ H q =>
  tV_mono (asg_imp (by simpa [gN] using hio) D σ H q) fun v H q => gnm_imp v σ H _ q
theorem vs_lc {i : Nat} {x : Str} {e : Expr} {E : E} {p pos : Pos} (h : PS X (.Assign [.Name x p] e pos) (tAsg (tV X.K (wpE Φ E)) (gName i))) (hio : i ∉ io) :
    PS X (.Assign [.Name x p] e pos) (tS X.K io (wpS Φ (.asg (.nm i) E))) := h.imp fun D σ H q =>
  tV_mono (asg_imp (by simpa [gN] using hio) D σ H q) fun v H q => gnm_imp v σ H _ q
theorem vs_tp {es : List Expr} {gs : List G} {n : Nat} {e : Expr} {E : E} {p pos : Pos} (hg : PG X (.Tuple es n p) (tGT X.K (.tp gs))) (he : PE X e (tV X.K (wpE Φ E))) (hn : notTup e = true) (hio : ∀ i ∈ gN (.tp gs), i ∉ io) :
    PS X (.Assign [.Tuple es n p] e pos) (tS X.K io (wpS Φ (.asg (.tp gs) E))) := (ps_asg he hg sole_tup (stores_plain hn) rfl).imp (asg_imp hio)
theorem vs_setIx (hu : X.A.units + 1 < cLine) {i : Nat} {o k e : Expr} {Kk E : E} {p pos : Pos} (ho : PE X o (tVar i)) (hk : PE X k (tV X.K (wpE Φ Kk))) (he : PE X e (tV X.K (wpE Φ E))) (hp : plainSub k = true) :
    PS X (.Assign [.Subscript o k p] e pos) (tS X.K io (wpS Φ (.setIx i Kk E))) :=
  (ps_asg he (pg_sub ho hk (set_P hu) (by intro v; cases k <;> first | rfl | cases hp)) sole_sub stores_sub rfl).imp fun D σ H ⟨Γ, Z, Os, De, ok, w, l⟩ => by
    simp only [wpS] at w
    refine ⟨Γ, Z, Os, _, ok, w, fun t Γ1 v H1 Z1 Os1 o1 q1 r1 => ?_⟩
    obtain ⟨⟨u, hu1⟩, q1⟩ := q1
    obtain ⟨vo, e1, e2⟩ := r1.ok.get i u hu1
    refine ⟨vo, e1, Γ1, Z1, Os1, _, r1.ok, q1, fun y Γ2 vk H2 Z2 Os2 o2 q2 r2 => ?_⟩
    obtain ⟨ft, q2⟩ := q2
    have n1 := r1.nilF ft
    subst n1
    have rt : Rep X.K H2 Z2 t [] v := r1.rep.ext r2.ext r1.own
    have ex := r1.exto.trans r2.exto
    have own2 : Own H2 Z2 ([] ++ Os2.flatten) := by simpa using r2.ok.own
    rcases q2 with ⟨xs, j, q, hx, rfl, hj, q2⟩ | ⟨ks, vs, hx, fit, fs, hz, q2⟩
    · obtain ⟨a, ws, os1, f1, f2, f3, rs⟩ := r2.ok.lstAt hx
      rw [e1] at f1
      cases f1
      obtain ⟨na, nz⟩ := r2.ok.headNodup f2
      obtain ⟨os2, sub, rs2⟩ := rs.setAt (n := q) rt
      have rep' : Rep X.K (upd H2 a (.lst (ws.set q v))) Z2 (.lst true (xs.set q t)) (a :: os2) (.ref a) := by
        simp only [Rep]
        exact ⟨a, _, rfl, os2, rfl, upd_same, rs2.upd nz fun m => na (sub.subset m)⟩
      obtain ⟨ok', ext'⟩ := r2.ok.mut (oy := []) hx f2 e1 own2 rep' ⟨a :: os1, sub.cons_cons a, by simp⟩
      refine .inl ⟨a, ws, j, q, rfl, r2.rep.int_inv, f3, by rw [← rs.length]; exact hj, l.nx _ σ _ Z2 _ q2 ok' (ext' (by simpa using ex)) Par.refl⟩
    · obtain ⟨a, ws, os1, f1, f2, d, rs⟩ := r2.ok.dicAt hx
      rw [e1] at f1
      cases f1
      obtain ⟨na, nz⟩ := r2.ok.headNodup f2
      have n2 := rs.nil _ fs
      subst n2
      refine .inr ⟨a, ks, ws, y, Z2, o2, rfl, d, r2.rep, fit, hz, fun u' du => ?_⟩
      have rep' : Rep X.K (upd H2 a u') Z2 (.dic true (putKs y ks) (putVs y t ks vs)) [a] (.ref a) := by
        simp only [Rep]
        refine ⟨a, putW y v ks ws, rfl, [], rfl, du.imp fun w e => by rw [e, upd_same], ?_⟩
        exact (rs.putW rt).upd nz (by simp)
      obtain ⟨ok', ext'⟩ := r2.ok.mut (oy := []) hx f2 e1 own2 rep' ⟨[a], List.Sublist.refl _, by simp⟩
      exact l.nx _ σ _ Z2 _ q2 ok' (ext' (by simpa using ex)) Par.refl
theorem vs_aug {i : Nat} {x : Str} {o : Op} {e : Expr} {E : E} {p pos : Pos} (hN : X.N.Nodup) (hi : X.N[i]? = some x) (hx : Loc X.env.scope x) (hf : X.fn x = true ∨ X.env.scope.names.lookup x = some .local) (he : PE X e (tV X.K (wpE Φ E))) (hio : i ∉ io) :
    PS X (.AugAssign (.Name x p) (opA o) e pos) (tS X.K io (wpS Φ (.aug i o E))) := (ps_aug hN hi hx he (augT o) hf).imp fun D σ H ⟨Γ, Z, Os, De, ok, w, l⟩ => by
  simp only [wpS] at w
  obtain ⟨x, h1, fx, w⟩ := w
  obtain ⟨v, h2, rx⟩ := ok.get i x h1
  have n := rx.nil _ fx
  rw [n] at rx
  refine ⟨v, h2, Γ, Z, Os, _, ok, w, fun y Γ1 u H1 Z1 Os1 o1 q1 r1 => ?_⟩
  have rx1 : Rep X.K H1 Z1 x [] v := rx.ext r1.ext (by simpa using ok.own)
  refine ⟨x, y, Z1, [], o1, _, r1.ok.zt, rx1, r1.rep, q1, fun z v' H' Z' os' qz nw => ?_⟩
  have res := nw.res r1.ok r1.exto
  have il : i < Γ1.length := by rw [← res.ok.ls, ok.ls]; exact ok.lt h1
  have ok' := res.ok.put il res.rep res.own
  exact l.nx _ _ _ _ _ qz ok' (res.ext.sub (Ok.put_sub (by rw [res.ok.lo]; exact il))) fun j m => List.getElem?_set_ne (show i ≠ j from fun e => hio (by rw [e]; exact m))
theorem vs_app {i : Nat} {o e : Expr} {E : E} {apos cpos pos : Pos} (ho : PE X o (tVar i)) (he : PE X e (tV X.K (wpE Φ E))) (hb : notCall0 o = true) (hl : lineOk apos cpos = true) (hs : notStar e = true) :
    PS X (.Expr (.Call (.Attribute o "append" apos) [e] [] cpos) pos) (tS X.K io (wpS Φ (.app i E))) :=
  (ps_expr (pe_bmV PySem.F.plainAttrs_list PySem.F.slot_list_append PySem.F.type_list_append mt_append ho (pa_cons he pa_nil (star_cons hs)) hb hl (by simp [hs]) (by simp)) (swaps_plain rfl)).imp fun D σ H ⟨Γ, Z, Os, De, ok, w, l⟩ => by
    simp only [wpS] at w
    obtain ⟨⟨b, us, h1⟩, w⟩ := w
    obtain ⟨v, h2, rx⟩ := ok.get i _ h1
    refine ⟨v, h2, tyV_lst rx rfl, Γ, Z, Os, _, ok, w, fun t Γ1 u H1 Z1 Os1 o1 q1 r1 => ?_⟩
    obtain ⟨xs, hx, hz, q⟩ := q1
    obtain ⟨a, ws, os1, f1, f2, f3, rs⟩ := r1.ok.lstAt hx
    rw [h2] at f1
    cases f1
    obtain ⟨na, nz⟩ := r1.ok.headNodup f2
    have nao : a ∉ o1 := fun m => r1.own.apart m (getD_mem (by rw [f2]; exact List.mem_cons_self))
    have rep' : Rep X.K (upd H1 a (.lst (ws ++ [u]))) Z1 (.lst true (xs ++ [t])) (a :: (os1 ++ o1)) (.ref a) := by
      simp only [Rep]
      refine ⟨a, _, rfl, _, rfl, upd_same, Reps.append (rs.upd nz na) ?_⟩
      simp only [Reps]
      exact ⟨o1, [], u, [], by simp, rfl, r1.rep.upd nz nao, rfl, rfl⟩
    obtain ⟨ok', ext'⟩ := r1.ok.mut (oy := o1) hx f2 h2 r1.own rep' ⟨_, List.Sublist.refl _, by
      refine List.Perm.trans ?_ List.perm_append_comm
      simp⟩
    exact ⟨a, ws, u, rfl, rfl, f3, by rw [← rs.length]; exact hz, l.nx _ σ _ Z1 _ q ok' (ext' r1.ext) Par.refl⟩
end
end PL

end
section
set_option maxHeartbeats 4000000
/-! PLq: the other statements. -/
namespace PL
open PySem PySem.Spec L2
open PyProof.Rows hiding St

section
variable {X : Cx} {Φ : Nat → Spec} {io : List Nat}
theorem Rep.seqR {K : PySem.W.Frag} {H : Hp} {Z : Addr → Prop} {t : T} {ys : List T} {os : List Addr} {v : V} (r : Rep K H Z t os v) (h : items t = some ys) (f : isFs ys = true) : ∃ b zs, v = .ref b ∧ (Rd H b (.lst zs) ∨ H b = some (.tup zs)) ∧ Reps K H Z ys [] zs := by
  cases t with
  | tup ts =>
    have e : ts = ys := by simpa [items] using h
    subst e
    obtain ⟨a, vs, rfl, g, rs⟩ := r.tup_f f
    exact ⟨a, vs, rfl, .inr g.2, rs⟩
  | lst o ts =>
    have e : ts = ys := by simpa [items] using h
    subst e
    obtain ⟨a, vs, rfl, g, rs⟩ := r.lst_inv f
    exact ⟨a, vs, rfl, .inl g, rs⟩
  | _ => cases h
theorem vs_ext {i : Nat} {o e : Expr} {A : P} {apos cpos pos : Pos} (ho : PE X o (tVar i)) (he : PE X e (tP X.K A (wpP Φ A))) (hb : notCall0 o = true) (hl : lineOk apos cpos = true) (hs : notStar e = true) :
    PS X (.Expr (.Call (.Attribute o "extend" apos) [e] [] cpos) pos) (tS X.K io (wpS Φ (.ext i A))) :=
  (ps_expr (pe_bmV PySem.F.plainAttrs_list PySem.F.slot_list_extend PySem.F.type_list_extend mt_extP ho (pa_cons he pa_nil (star_cons hs)) hb hl (by simp [hs]) (by simp)) (swaps_plain rfl)).imp fun D σ H ⟨Γ, Z, Os, De, ok, w, l⟩ => by
    simp only [wpS] at w
    obtain ⟨⟨b, us, h1⟩, w⟩ := w
    obtain ⟨v, h2, rx⟩ := ok.get i _ h1
    refine ⟨v, h2, tyV_lst rx rfl, Γ, Z, Os, _, ok, w, fun t Γ1 u H1 Z1 Os1 o1 q1 r1 => ?_⟩
    obtain ⟨xs, ys, hx, hy, fy, hz, q⟩ := q1
    obtain ⟨a, ws, os1, f1, f2, f3, rs⟩ := r1.ok.lstAt hx
    rw [h2] at f1
    cases f1
    obtain ⟨na, nz⟩ := r1.ok.headNodup f2
    obtain ⟨o', rt⟩ := r1.rep
    obtain ⟨b, zs, rfl, hB, rz⟩ := rt.seqR hy fy
    have rep' : Rep X.K (upd H1 a (.lst (ws ++ zs))) Z1 (.lst true (xs ++ ys)) (a :: os1) (.ref a) := by
      simp only [Rep]
      refine ⟨a, _, rfl, _, rfl, upd_same, ?_⟩
      have := Reps.append (rs.upd (u := .lst (ws ++ zs)) nz na) (rz.upd (u := .lst (ws ++ zs)) nz (by simp))
      simpa using this
    obtain ⟨ok', ext'⟩ := r1.ok.mut (oy := []) hx f2 h2 (by simpa using r1.ok.own) rep' ⟨_, List.Sublist.refl _, by simp⟩
    exact ⟨a, b, ws, zs, rfl, rfl, f3, hB, by rw [← rs.length, ← rz.length]; exact hz, l.nx _ σ _ Z1 _ q ok' (ext' (by simpa using r1.ext)) Par.refl⟩
theorem vs_ex {e : Expr} {E : E} {pos : Pos} (he : PE X e (tV X.K (wpE Φ E))) (hp : plainV e = true) : PS X (.Expr e pos) (tS X.K io (wpS Φ (.ex E))) := (ps_expr he (swaps_plain hp)).imp fun D σ H ⟨Γ, Z, Os, De, ok, w, l⟩ => by
  simp only [wpS] at w
  exact ⟨Γ, Z, Os, _, ok, w, fun t Γ1 v H1 Z1 Os1 o1 q1 r1 => l.nx Γ1 σ H1 Z1 Os1 q1 r1.ok r1.exto Par.refl⟩
theorem vs_ret {e : Expr} {E : E} {pos : Pos} (he : PE X e (tV X.K (wpE Φ E))) : PS X (.Return (some e) pos) (tS X.K io (wpS Φ (.ret E))) := (ps_ret he).imp fun D σ H ⟨Γ, Z, Os, De, ok, w, l⟩ => by
  simp only [wpS] at w
  exact ⟨Γ, Z, Os, _, ok, w, fun t Γ1 v H1 Z1 Os1 o1 q1 r1 => l.rt t Γ1 σ v H1 Z1 Os1 o1 q1 r1.ok r1.rep r1.own r1.ext Par.refl⟩
theorem vs_retN {pos : Pos} : PS X (.Return none pos) (tS X.K io (wpS Φ .retN)) := ps_retN.imp fun D σ H ⟨Γ, Z, Os, De, ok, w, l⟩ => by
  simp only [wpS] at w
  exact l.rt .non Γ σ .non H Z Os [] w ok rep_non (by simpa using ok.own) Ext.refl Par.refl
theorem vs_iff {c : Expr} {a b : List Stmt} {C : C} {A B : Ss} {pos : Pos} (hc : PT X c (tQ X.K (wpC Φ C))) (ha : PSs X a (tS X.K io (wpSs Φ A))) (hb : PSs X b (tS X.K io (wpSs Φ B))) : PS X (.If c a b pos) (tS X.K io (wpS Φ (.iff C A B))) := (ps_if hc ha hb).imp fun D σ H ⟨Γ, Z, Os, De, ok, w, l⟩ => by
  simp only [wpS] at w
  refine ⟨Γ, Z, Os, _, ok, w, fun c Γ1 H1 Z1 Os1 q1 ok1 e1 => ?_⟩
  cases c with
  | true => exact ⟨Γ1, Z1, Os1, De, ok1, q1, l.later e1 Par.refl⟩
  | false => exact ⟨Γ1, Z1, Os1, De, ok1, q1, l.later e1 Par.refl⟩
theorem vs_brk {pos : Pos} : PS X (.Break pos) (tS X.K io (wpS Φ .brk)) := ps_break.imp fun D σ H ⟨Γ, Z, Os, De, ok, w, l⟩ => by
  simp only [wpS] at w
  exact l.bk Γ σ H Z Os w ok Ext.refl Par.refl
theorem vs_cnt {pos : Pos} : PS X (.Continue pos) (tS X.K io (wpS Φ .cnt)) := ps_continue.imp fun D σ H ⟨Γ, Z, Os, De, ok, w, l⟩ => by
  simp only [wpS] at w
  exact l.ct Γ σ H Z Os w ok Ext.refl Par.refl
theorem vs_pas {pos : Pos} : PS X (.Pass pos) (tS X.K io (wpS Φ .pas)) := ps_pass.imp fun D σ H ⟨Γ, Z, Os, De, ok, w, l⟩ => by
  simp only [wpS] at w
  exact l.nx Γ σ H Z Os w ok Ext.refl Par.refl
theorem vss_nil : PSs X [] (tS X.K io (wpSs Φ .nil)) := pss_nil.imp fun D σ H ⟨Γ, Z, Os, De, ok, w, l⟩ => by
  simp only [wpSs] at w
  exact l.nx Γ σ H Z Os w ok Ext.refl Par.refl
theorem vss_cons {st : Stmt} {rest : List Stmt} {s : S} {ss : Ss} (h1 : PS X st (tS X.K io (wpS Φ s))) (h2 : PSs X rest (tS X.K io (wpSs Φ ss))) : PSs X (st :: rest) (tS X.K io (wpSs Φ (.cons s ss))) := (pss_cons h1 h2).imp fun D σ H ⟨Γ, Z, Os, De, ok, w, l⟩ => by
  simp only [wpSs] at w
  exact ⟨Γ, Z, Os, _, ok, w, ⟨fun Γ' σ' H' Z' Os' q ok' e' p' => ⟨Γ', Z', Os', De, ok', q, l.later e' p'⟩, l.rt, l.bk, l.ct⟩⟩
theorem vss_kill {rest : List Stmt} {ks : List Nat} {ss : Ss} (h2 : PSs X rest (tS X.K io (wpSs Φ ss))) : PSs X rest (tS X.K io (wpSs Φ (.cons (.kill ks) ss))) := h2.imp fun D σ H ⟨Γ, Z, Os, De, ok, w, l⟩ => by
  simp only [wpSs, wpS] at w
  exact ⟨wipeE ks Γ, Z, wipeO ks Os, De, ok.wipe ks rfl fun _ _ => rfl, w, l.later (Ext.refl.sub fun a m => (wipeO_sub ks Os).subset m) Par.refl⟩
theorem vss_frz {rest : List Stmt} {i : Nat} {ss : Ss} (h2 : PSs X rest (tS X.K io (wpSs Φ ss))) : PSs X rest (tS X.K io (wpSs Φ (.cons (.frz i) ss))) := h2.imp fun D σ H ⟨Γ, Z, Os, De, ok, w, l⟩ => by
  simp only [wpSs, wpS] at w
  obtain ⟨t, h1, w⟩ := w
  exact ⟨_, _, _, De, ok.frzAt h1, w, l.later (Ext.frzAt Ext.refl) Par.refl⟩
theorem forr_imp {K : PySem.W.Frag} {it : I} {g : G} {body : Ss} (hio : ∀ i ∈ gN g, i ∉ io) : ∀ D σ H, tS K io (wpS Φ (.forr g it body)) D σ H → tFor (tI K it (wpI Φ it)) (tGT K g) (tS K io (wpSs Φ body)) D σ H := fun D σ H ⟨Γ, Z, Os, De, ok, w, l⟩ => by
  simp only [wpS] at w
  refine ⟨Γ, Z, Os, _, ok, w, fun xs Γ1 H1 Z1 Os1 J lp ok1 e1 io1 _ => ?_⟩
  refine ⟨fun i m σ2 H2 => m = xs.length - i ∧ i ≤ xs.length ∧ ∃ Γ2 Z2 Os2, Ok K H2 Z2 Γ2 Os2 σ2 ∧
    forLoop (fun x again Γ' => ∃ Γ2, bindG g x Γ' = some Γ2 ∧ wpSs Φ body { De with nx := again, ct := again, bk := De.nx } Γ2) De.nx (xs.drop i) Γ2 ∧ Ext Os1.flatten H1 Z1 H2 Z2 Os2.flatten ∧ Par io σ σ2,
    ⟨xs.length, by simp, Nat.zero_le _, Γ1, Z1, Os1, ok1, lp, Ext.refl, Par.refl⟩, ?_⟩
  rintro i m σ2 H2 ⟨rfl, hi, Γ2, Z2, Os2, ok2, lp2, e2, p2⟩
  have kp := Keeps.of e2 ok1.own
  by_cases hlt : i < xs.length
  · refine .inr ⟨io1.goes i H2 hlt kp, _, fun σ' H' p => ⟨xs.length - (i + 1), by omega, rfl, by omega, p⟩, fun x H3 y => ?_⟩
    obtain ⟨t, Z3, ht, ft, nw⟩ := io1.yld i H2 Z2 x H3 kp e2.zz ok2.zt hlt y
    have edrop : xs.drop i = t :: xs.drop (i + 1) := by
      rw [List.drop_eq_getElem_cons hlt]
      have := List.getElem?_eq_getElem hlt
      rw [this] at ht
      cases ht
      rfl
    rw [edrop] at lp2
    obtain ⟨Γ3, hb, lp3⟩ := lp2
    have ok3 := ok2.ext0 nw.ext nw.zt
    have e3 : Ext Os1.flatten H1 Z1 H3 Z3 Os2.flatten := by
      have := nw.ext.frame Os2.flatten
      rw [List.append_nil] at this
      exact e2.trans this
    refine ⟨_, Z3, Os2, t, [], Γ3, ok3, nw.rep, by simpa using ok3.own, hb, fun σ4 Os4 ok4 sub4 kp4 => ?_⟩
    have p4 := p2.trans (kp4.par hio)
    have e4 : Ext Os1.flatten H1 Z1 H3 Z3 Os4.flatten := e3.sub fun a m => by simpa using sub4 a m
    have l4 := l.later (e1.trans e4) p4
    refine ⟨Γ3, Z3, Os4, _, ok4, lp3, ⟨fun Γ' σ' H' Z' Os' q ok' e' p' => ?_, l4.rt, fun Γ' σ' H' Z' Os' q ok' e' p' => l4.nx Γ' σ' H' Z' Os' q ok' e' p', fun Γ' σ' H' Z' Os' q ok' e' p' => ?_⟩⟩
    · exact ⟨Γ', Z', Os', ok', q, e4.trans e', p4.trans p'⟩
    · exact ⟨Γ', Z', Os', ok', q, e4.trans e', p4.trans p'⟩
  · have e : i = xs.length := by omega
    subst e
    rw [List.drop_length] at lp2
    exact .inl ⟨io1.stops H2 kp, l.nx Γ2 σ2 H2 Z2 Os2 lp2 ok2 (e1.trans e2) p2⟩
theorem vs_forr {tg iter : Expr} {body : List Stmt} {it : I} {g : G} {B : Ss} {pos : Pos} (hp : PassesOwn (model X.prog X.w) X.A X.env X.xe) (hc : X.calm = true) (hi : PI X tg iter (tI X.K it (wpI Φ it))) (hg : PG X tg (tGT X.K g)) (hb : PSs X body (tS X.K io (wpSs Φ B))) (hs : notSet iter = true) (hio : ∀ i ∈ gN g, i ∉ io) :
    PS X (.For tg iter body [] pos) (tS X.K io (wpS Φ (.forr g it B))) := (ps_for hp hc hi hg hb (fold_ok hs)).imp (forr_imp hio)
theorem whl_imp {K : PySem.W.Frag} {c : C} {body : Ss} : ∀ D σ H, tS K io (wpS Φ (.whl c body)) D σ H → tWhile (tQ K (wpC Φ c)) (tS K io (wpSs Φ body)) D σ H := fun D σ H ⟨Γ, Z, Os, De, ok, w, l⟩ => by
  simp only [wpS] at w
  obtain ⟨n, w⟩ := w
  refine ⟨fun m σ2 H2 => ∃ Γ2 Z2 Os2, Ok K H2 Z2 Γ2 Os2 σ2 ∧
    whlLoop (fun again Γ' => wpC Φ c Γ' fun d Γ1 => if d = true then wpSs Φ body { De with nx := again, ct := again, bk := De.nx } Γ1 else De.nx Γ1) m Γ2 ∧ Ext Os.flatten H Z H2 Z2 Os2.flatten ∧ Par io σ σ2,
    ⟨n, Γ, Z, Os, ok, w, Ext.refl, Par.refl⟩, ?_⟩
  rintro m σ2 H2 ⟨Γ2, Z2, Os2, ok2, lp, e2, p2⟩
  cases m with
  | zero => exact lp.elim
  | succ m =>
    refine ⟨Γ2, Z2, Os2, _, ok2, lp, fun b Γ3 H3 Z3 Os3 q3 ok3 e3 => ?_⟩
    have e23 := e2.trans e3
    cases b with
    | false => exact l.nx Γ3 σ2 H3 Z3 Os3 q3 ok3 e23 p2
    | true =>
      have l3 := l.later e23 p2
      refine ⟨_, fun σ' H' p => ⟨m, Nat.lt_succ_self m, p⟩, Γ3, Z3, Os3, _, ok3, q3, ⟨fun Γ' σ' H' Z' Os' q ok' e' p' => ?_, l3.rt, fun Γ' σ' H' Z' Os' q ok' e' p' => l3.nx Γ' σ' H' Z' Os' q ok' e' p', fun Γ' σ' H' Z' Os' q ok' e' p' => ?_⟩⟩
      · exact ⟨Γ', Z', Os', ok', q, e23.trans e', p2.trans p'⟩
      · exact ⟨Γ', Z', Os', ok', q, e23.trans e', p2.trans p'⟩
theorem vs_whl {c : Expr} {body : List Stmt} {C : C} {B : Ss} {pos : Pos} (hp : PassesOwn (model X.prog X.w) X.A X.env X.xe) (hc : PT X c (tQ X.K (wpC Φ C))) (hb : PSs X body (tS X.K io (wpSs Φ B))) : PS X (.While c body [] pos) (tS X.K io (wpS Φ (.whl C B))) :=
  (ps_while hp hc hb).imp whl_imp
/-- a list that its slot owns, gone through; the slot holds it again behind the loop -/
theorem forB_imp {K : PySem.W.Frag} {i : Nat} {g : G} {body : Ss} (hio : ∀ j ∈ gN g, j ∉ i :: io) : ∀ D σ H, tS K io (wpS Φ (.forB g i body)) D σ H → tFor (iList K (tVar i)) (tGT K g) (tS K (i :: io) (wpSs Φ body)) D σ H := fun D σ H ⟨Γ, Z, Os, De, ok, w, l⟩ => by
  simp only [wpS] at w
  obtain ⟨xs, hx, fs, lp⟩ := w
  obtain ⟨a, vs, os1, s1, s2, s3, rs⟩ := ok.lstAt hx
  have n1 := rs.nil _ fs
  subst n1
  have ow0 : Own H Z ([a] ++ (Os.set i []).flatten) := by have := ok.out i; rw [s2] at this; exact this
  have perm : ∀ b, b ∈ [a] ++ (Os.set i []).flatten → b ∈ Os.flatten := fun b m => by
    have := (flatten_take (Os := Os) (i := i)).mem_iff (a := b)
    rw [s2] at this
    exact this.mp m
  have wide : ∀ {H2 : Hp} {Z2 : Addr → Prop} {os : List Addr}, Ext (Os.set i []).flatten H Z H2 Z2 os → Ext Os.flatten H Z H2 Z2 os := fun e => e.wide fun b m => flatten_drop.subset m
  refine ⟨.ref a, s1, a, rfl, ⟨vs, .inl (.inl s3)⟩, ?_⟩
  have W := walk_list (K := K) (a := a) (xs := vs)
  have len := rs.length
  refine ⟨fun j m σ2 H2 => m = xs.length - j ∧ j ≤ xs.length ∧ ∃ Γ2 Z2 Os2, Ok K H2 Z2 Γ2 Os2 σ2 ∧
    forLoop (fun x again Γ' => ∃ Γ2, bindG g x Γ' = some Γ2 ∧ wpSs Φ body { De with nx := again, ct := again, bk := fun Γ2 => De.nx (Γ2.set i (some (.lst true xs))) } Γ2) (fun Γ2 => De.nx (Γ2.set i (some (.lst true xs)))) (xs.drop j) Γ2 ∧
    Ext (Os.set i []).flatten H Z H2 Z2 Os2.flatten ∧ Par (i :: io) σ σ2,
    ⟨xs.length, by simp, Nat.zero_le _, _, Z, _, ok.drop i, lp, Ext.refl, Par.refl⟩, ?_⟩
  -- behind the loop
  have fin : ∀ {Γ2 : Env} {Z2 : Addr → Prop} {Os2 : List (List Addr)} {σ2 : L2.St} {H2 : Hp}, De.nx (Γ2.set i (some (.lst true xs))) → Ok K H2 Z2 Γ2 Os2 σ2 → Ext (Os.set i []).flatten H Z H2 Z2 Os2.flatten → Par (i :: io) σ σ2 → D.nx σ2 H2 := fun {Γ2 Z2 Os2 σ2 H2} q ok2 e2 p2 => by
    have ow2 := ow0.frame e2 ok2.own
    have si : σ2[i]? = some (some (.ref a)) := by rw [p2 i List.mem_cons_self]; exact s1
    have il : i < Γ2.length := by rw [← ok2.ls]; exact (List.getElem?_eq_some_iff.mp si).1
    have ha2 : H2 a = some (.lst vs) := e2.same a _ s3 (ow0.apart (by simp))
    have rs2 : Reps K H2 Z2 xs [] vs := rs.ext (t := []) e2 (by simpa using ow0.right)
    have rp : Rep K H2 Z2 (.lst true xs) [a] (.ref a) := by
      simp only [Rep]
      exact ⟨a, vs, rfl, [], rfl, ha2, rs2⟩
    have okB := ok2.back il si rp ow2
    refine l.nx _ σ2 H2 Z2 _ q okB ?_ fun j m => p2 j (List.mem_cons_of_mem _ m)
    exact ((e2.frame [a]).wide perm).sub (Ok.put_sub (by rw [ok2.lo]; exact il))
  rintro j m σ2 H2 ⟨rfl, hj, Γ2, Z2, Os2, ok2, lp2, e2, p2⟩
  have ha2 : H2 a = some (.lst vs) := e2.same a _ s3 (ow0.apart (by simp))
  have sq2 : SqL K H2 a vs := .inl (.inl ha2)
  by_cases hlt : j < xs.length
  · refine .inr ⟨W.goes j H2 (by rw [← len]; exact hlt) sq2, _, fun σ' H' p => ⟨xs.length - (j + 1), by omega, rfl, by omega, p⟩, fun x H3 y => ?_⟩
    obtain ⟨rfl, hv⟩ := W.yields j H2 x H3 (by rw [← len]; exact hlt) sq2 y
    have rs2 : Reps K H3 Z2 xs [] vs := rs.ext (t := []) e2 (by simpa using ow0.right)
    have ht : xs[j]? = some xs[j] := by simp [hlt]
    obtain ⟨v, h1, h2⟩ := rs2.nilOs ht
    rw [hv] at h1
    cases h1
    have edrop : xs.drop j = xs[j] :: xs.drop (j + 1) := List.drop_eq_getElem_cons hlt
    rw [edrop] at lp2
    obtain ⟨Γ3, hb, lp3⟩ := lp2
    refine ⟨_, Z2, Os2, xs[j], [], Γ3, ok2, h2, by simpa using ok2.own, hb, fun σ4 Os4 ok4 sub4 kp4 => ?_⟩
    have p4 := p2.trans (kp4.par hio)
    have e4 : Ext (Os.set i []).flatten H Z H3 Z2 Os4.flatten := e2.sub fun b m => by simpa using sub4 b m
    refine ⟨Γ3, Z2, Os4, _, ok4, lp3, ⟨fun Γ' σ' H' Z' Os' q ok' e' p' => ?_, fun t Γ' σ' v H' Z' Os' os q ok' r' o' e' p' => ?_, fun Γ' σ' H' Z' Os' q ok' e' p' => fin q ok' (e4.trans e') (p4.trans p'), fun Γ' σ' H' Z' Os' q ok' e' p' => ?_⟩⟩
    · exact ⟨Γ', Z', Os', ok', q, e4.trans e', p4.trans p'⟩
    · exact l.rt t Γ' σ' v H' Z' Os' os q ok' r' o' (wide (e4.trans e')) fun j m => (p4.trans p') j (List.mem_cons_of_mem _ m)
    · exact ⟨Γ', Z', Os', ok', q, e4.trans e', p4.trans p'⟩
  · have e : j = xs.length := by omega
    subst e
    rw [List.drop_length] at lp2
    exact .inl ⟨by rw [len]; exact W.stops H2 sq2, fin lp2 ok2 e2 p2⟩
theorem vs_forB {tg iter : Expr} {body : List Stmt} {i : Nat} {g : G} {B : Ss} {pos : Pos} (hp : PassesOwn (model X.prog X.w) X.A X.env X.xe) (hc : X.calm = true) (hi : PE X iter (tVar i)) (hg : PG X tg (tGT X.K g)) (hb : PSs X body (tS X.K (i :: io) (wpSs Φ B))) (hs : notSet iter = true) (hio : ∀ j ∈ gN g, j ∉ i :: io) :
    PS X (.For tg iter body [] pos) (tS X.K io (wpS Φ (.forB g i B))) := (ps_for hp hc (pi_list hi) hg hb (fold_ok hs)).imp (forB_imp hio)
end
end PL

end
section
set_option maxHeartbeats 4000000
/-! PLr: chk: a text of the little language against the program's own tree. -/
namespace PL
open PySem PySem.Spec L2
open PyProof.Rows hiding St


def relS (sc scope : Scope) : Scope := { scope with names := scope.names.map fun (n, k) => if (k == .free && sc.kind == .function && sc.names.lookup n == some .cell) then (n, .cell) else (n, k) }
def seeK : Option NameKind → Bool
  | some .local => true
  | some .cell => true
  | some .free => true
  | _ => false
def locK : Option NameKind → Bool
  | some .local => true
  | some .cell => true
  | _ => false
def notLoc : Option NameKind → Bool
  | some .local => false
  | _ => true
def glK : Option NameKind → Bool
  | some .globalImplicit => true
  | _ => false
/-- what chk knows: the names of the frame, the block's scope as it is read and as it is written, the defs, the lent parameters -/
structure Tb where
  N : List Str
  sc : Scope
  sw : Scope
  fs : List (Str × Sg)
  io : List Nat := []
def Tb.slot (b : Tb) (i : Nat) (x : Str) : Bool := decide (b.N[i]? = some x) && seeK (b.sc.names.lookup x) && !(x == ("__debug__" : Str)) && !(x == ("__classdict__" : Str))
def Tb.put (b : Tb) (i : Nat) (x : Str) : Bool := decide (b.N[i]? = some x) && locK (b.sw.names.lookup x)
def Tb.gl (b : Tb) (x : Str) : Bool := glK (b.sc.names.lookup x)
def Tb.blk (b : Tb) (scope : Scope) : Tb := { b with sc := relS b.sc scope, sw := scope }
def ownP (N : List Str) (own : List Nat) : List (Str × Nat) := own.map fun i => (N.getD i (Str.ofString ""), i)
def plainT : Expr → Bool
  | .UnaryOp .Not _ _ => false
  | .BoolOp _ _ _ => false
  | .IfExp _ _ _ _ => false
  | .Compare _ _ _ _ => false
  | _ => true
def anyComp : Scope → Str → Bool := fun s t => s.names.any fun (n, k) => n == t && (k == .local || k == .cell)

mutual
def cG : Nat → Tb → G → Expr → Bool
  | 0, _, _, _ => false
  | n + 1, b, .nm i, x => match x with
    | .Name y _ => b.put i y
    | _ => false
  | n + 1, b, .tp gs, x => match x with
    | .Tuple es _ _ => es.all notStar && cGs n b gs es
    | _ => false
def cGs : Nat → Tb → List G → List Expr → Bool
  | 0, _, _, _ => false
  | n + 1, b, [], es => es.isEmpty
  | n + 1, b, g :: gs, es => match es with
    | e :: es => cG n b g e && cGs n b gs es
    | [] => false
end
mutual
def cE : Nat → Tb → E → Expr → Bool
  | 0, _, _, _ => false
  | n + 1, b, .non, x => match x with
    | .Constant .none _ _ => true
    | _ => false
  | n + 1, b, .bl c, x => match x with
    | .Constant (.bool d) _ _ => c == d
    | _ => false
  | n + 1, b, .int i, x => match x with
    | .Constant (.int j) _ _ => decide (i = j)
    | _ => false
  | n + 1, b, .str s, x => match x with
    | .Constant (.str t) _ _ => decide (s = t)
    | _ => false
  | n + 1, b, .cp i, x => match x with
    | .Name y _ => b.slot i y
    | _ => false
  | n + 1, b, .take i, x => match x with
    | .Name y _ => b.slot i y
    | _ => false
  | n + 1, b, .fz e, x => cE n b e x
  | n + 1, b, .tup es, x => match x with
    | .Tuple xs _ _ => cEs n b es xs
    | _ => false
  | n + 1, b, .lst es, x => match x with
    | .List xs _ => cEs n b es xs
    | _ => false
  | n + 1, b, .dic0, x => match x with
    | .Dict [] [] _ => true
    | _ => false
  | n + 1, b, .op o a c, x => match x with
    | .BinOp l op r _ => decide (opA o = op) && (cE n b a l && cE n b c r)
    | _ => false
  | n + 1, b, .neg a, x => match x with
    | .UnaryOp .USub l _ => cE n b a l
    | _ => false
  | n + 1, b, .and a c, x => match x with
    | .BoolOp .And (l :: r :: rs) _ => cE n b a l && cAnd n b c (r :: rs)
    | _ => false
  | n + 1, b, .or a c, x => match x with
    | .BoolOp .Or (l :: r :: rs) _ => cE n b a l && cOr n b c (r :: rs)
    | _ => false
  | n + 1, b, .nott p, x => match x with
    | .UnaryOp .Not l _ => cP n b p l
    | _ => false
  | n + 1, b, .cmp r p q, x => match x with
    | .Compare l [op] [c] _ => decide (rlA r = op) && (!behindInMarks op c && (cP n b p l && cP n b q c))
    | _ => false
  | n + 1, b, .chain r1 r2 p q s, x => match x with
    | .Compare l [op1, op2] [c, d] _ => decide (rlA r1 = op1) && (decide (rlA r2 = op2) && (!lastMarks [op1, op2] [c, d] && (cE n b p l && (cE n b q c && cE n b s d))))
    | _ => false
  | n + 1, b, .ifx c a d, x => match x with
    | .IfExp t y z _ => cC n b c t && (cE n b a y && cE n b d z)
    | _ => false
  | n + 1, b, .idx p i, x => match x with
    | .Subscript o k _ => plainSub k && (cP n b p o && cE n b i k)
    | _ => false
  | n + 1, b, .sl p lo hi, x => match x with
    | .Subscript o (.Slice l u none _) _ => cP n b p o && (cOe n b lo l && cOe n b hi u)
    | _ => false
  | n + 1, b, .call f es, x => match x with
    | .Call (.Name y _) args [] _ => (match b.fs[f]? with
        | some (z, m) => decide (z = y) && decide (m.1 = maskOf es)
        | none => false) && (b.gl y && (!(y == ("__debug__" : Str)) && (args.all notStar && cEs n b es args)))
    | .Call (.Name y _) [] kws _ => (match b.fs[f]? with
        | some (z, m) => decide (z = y) && (decide (m.1 = maskOf es) && decide (kws.map (·.arg) = m.2.map some))
        | none => false) && (!kws.isEmpty && (b.gl y && (!(y == ("__debug__" : Str)) && cEs n b es (kws.map (·.value)))))
    | _ => false
  | n + 1, b, .bi t p, x => match x with
    | .Call (.Name y _) [e] [] _ => decide (y = biN t) && (b.gl y && (notStar e && cP n b p e))
    | _ => false
  | n + 1, b, .mm mx a c, x => match x with
    | .Call (.Name y _) [e, f] [] _ => decide (y = mmN mx) && (b.gl y && (notStar e && (notStar f && (cE n b a e && cE n b c f))))
    | _ => false
  | n + 1, b, .szip a c, x => match x with
    | .Call (.Name y _) [.Call (.Name z _) [e, f] [] _] [] _ => decide (y = ("sorted" : Str)) && (decide (z = ("zip" : Str)) && (b.gl y && (b.gl z && (notStar e && (notStar f && (cE n b a e && cE n b c f))))))
    | _ => false
  | n + 1, b, .sset p, x => match x with
    | .Call (.Name y _) [.Call (.Name z _) [e] [] _] [] _ => decide (y = ("sorted" : Str)) && (decide (z = ("set" : Str)) && (b.gl y && (b.gl z && (notStar e && cP n b p e))))
    | _ => false
  | n + 1, b, .mml mx p, x => match x with
    | .Call (.Name y _) [e] [] _ => decide (y = mmN mx) && (b.gl y && (notStar e && cP n b p e))
    | _ => false
  | n + 1, b, .isi p ty, x => match x with
    | .Call (.Name y _) [e, .Name z _] [] _ => decide (y = ("isinstance" : Str)) && (decide (z = Str.ofString (tyN ty)) && (b.gl y && (b.gl z && (notStar e && cP n b p e))))
    | _ => false
  | n + 1, b, .lc own it g c e, x => match x with
    | .ListComp elt [⟨tg, iter, ifs, as⟩] scope _ => decide (as = 0) && (notSet iter && (blkC b.N b.sc scope (ownP b.N own) && ((gN g).all (fun i => decide (i ∈ own)) && (cI n b it tg iter && (cG n (b.blk scope) g tg && (cOc n (b.blk scope) c ifs && cE n (b.blk scope) e elt))))))
    | _ => false
  | n + 1, b, .lc2 own it g c own1 it1 g1 c1 e, x => match x with
    | .ListComp elt [⟨tg, iter, ifs, as⟩, ⟨tg1, iter1, ifs1, as1⟩] scope _ => decide (as = 0) && (decide (as1 = 0) && (notSet iter && (notSet iter1 && (blkC b.N b.sc scope (ownP b.N own) && ((gN g).all (fun i => decide (i ∈ own)) && ((gN g1).all (fun i => decide (i ∈ own1)) && (own1.all (fun i => decide (i ∈ own)) &&
        (cI n b it tg iter && (cG n (b.blk scope) g tg && (cOc n (b.blk scope) c ifs && (cI n (b.blk scope) it1 tg1 iter1 && (cG n (b.blk scope) g1 tg1 && (cOc n (b.blk scope) c1 ifs1 && cE n (b.blk scope) e elt)))))))))))))
    | _ => false
  | n + 1, b, .pop i, x => match x with
    | .Call (.Attribute (.Name y _) m apos) [] [] cpos => decide (m = ("pop" : Str)) && (b.slot i y && lineOk apos cpos)
    | _ => false
  | n + 1, b, .get p k d, x => match x with
    | .Call (.Attribute o m apos) [e, f] [] cpos => decide (m = ("get" : Str)) && (notCall0 o && (lineOk apos cpos && (notStar e && (notStar f && (cP n b p o && (cE n b k e && cE n b d f))))))
    | _ => false
  | n + 1, b, .index p k, x => match x with
    | .Call (.Attribute o m apos) [e] [] cpos => decide (m = ("index" : Str)) && (notCall0 o && (lineOk apos cpos && (notStar e && (cP n b p o && cE n b k e))))
    | _ => false
  | n + 1, b, .lrg a c, x => match x with
    | .Call (.Name y _) [.Call (.Name z _) [e, f] [] _] [] _ => decide (y = ("list" : Str)) && (decide (z = ("range" : Str)) && (b.gl y && (b.gl z && (notStar e && (notStar f && (cE n b a e && cE n b c f))))))
    | .Call (.Name y _) [.Call (.Name z _) [f] [] _] [] _ => (match a with
      | .int i => decide (i = 0)
      | _ => false) && (decide (y = ("list" : Str)) && (decide (z = ("range" : Str)) && (b.gl y && (b.gl z && (notStar f && cE n b c f)))))
    | _ => false
def cAnd : Nat → Tb → E → List Expr → Bool
  | 0, _, _, _ => false
  | n + 1, b, a, xs => match xs with
    | [x] => cE n b a x
    | x :: y :: ys => match a with
      | .and a c => cE n b a x && cAnd n b c (y :: ys)
      | _ => false
    | [] => false
def cOr : Nat → Tb → E → List Expr → Bool
  | 0, _, _, _ => false
  | n + 1, b, a, xs => match xs with
    | [x] => cE n b a x
    | x :: y :: ys => match a with
      | .or a c => cE n b a x && cOr n b c (y :: ys)
      | _ => false
    | [] => false
def cEs : Nat → Tb → Es → List Expr → Bool
  | 0, _, _, _ => false
  | n + 1, b, .nil, xs => xs.isEmpty
  | n + 1, b, .cons e es, xs => match xs with
    | x :: xs => notStar x && (cE n b e x && cEs n b es xs)
    | [] => false
  | n + 1, b, .lend i es, xs => match xs with
    | .Name y _ :: xs => b.slot i y && cEs n b es xs
    | _ => false
def cP : Nat → Tb → P → Expr → Bool
  | 0, _, _, _ => false
  | n + 1, b, .var i, x => match x with
    | .Name y _ => b.slot i y
    | _ => false
  | n + 1, b, .tmp e, x => cE n b e x
def cOe : Nat → Tb → Oe → Option Expr → Bool
  | 0, _, _, _ => false
  | n + 1, b, .no, x => x.isNone
  | n + 1, b, .so e, x => match x with
    | some x => cE n b e x
    | none => false
def cC : Nat → Tb → C → Expr → Bool
  | 0, _, _, _ => false
  | n + 1, b, .val p, x => plainT x && cP n b p x
  | n + 1, b, .and a c, x => match x with
    | .BoolOp .And (l :: r :: rs) _ => cC n b a l && cCAnd n b c (r :: rs)
    | _ => false
  | n + 1, b, .or a c, x => match x with
    | .BoolOp .Or (l :: r :: rs) _ => cC n b a l && cCOr n b c (r :: rs)
    | _ => false
  | n + 1, b, .not a, x => match x with
    | .UnaryOp .Not l _ => cC n b a l
    | _ => false
  | n + 1, b, .cmp r p q, x => match x with
    | .Compare l [op] [c] _ => decide (rlA r = op) && (!behindInMarks op c && (cP n b p l && cP n b q c))
    | _ => false
  | n + 1, b, .chain r1 r2 p q s, x => match x with
    | .Compare l [op1, op2] [c, d] _ => decide (rlA r1 = op1) && (decide (rlA r2 = op2) && (!lastMarks [op1, op2] [c, d] && (cE n b p l && (cE n b q c && cE n b s d))))
    | _ => false
def cCAnd : Nat → Tb → C → List Expr → Bool
  | 0, _, _, _ => false
  | n + 1, b, a, xs => match xs with
    | [x] => cC n b a x
    | x :: y :: ys => match a with
      | .and a c => cC n b a x && cCAnd n b c (y :: ys)
      | _ => false
    | [] => false
def cCOr : Nat → Tb → C → List Expr → Bool
  | 0, _, _, _ => false
  | n + 1, b, a, xs => match xs with
    | [x] => cC n b a x
    | x :: y :: ys => match a with
      | .or a c => cC n b a x && cCOr n b c (y :: ys)
      | _ => false
    | [] => false
def cOc : Nat → Tb → Oc → List Expr → Bool
  | 0, _, _, _ => false
  | n + 1, b, .no, xs => xs.isEmpty
  | n + 1, b, .so c, xs => match xs with
    | [x] => cC n b c x
    | _ => false
def cI : Nat → Tb → I → Expr → Expr → Bool
  | 0, _, _, _, _ => false
  | n + 1, b, .zips p, tg, x => match x with
    | .Call (.Name y _) [.Starred e _] [] _ => plainTg tg && (decide (y = ("zip" : Str)) && (b.gl y && cP n b p e))
    | _ => false
  | n + 1, b, .seq p, _, x => cP n b p x
  | n + 1, b, .rng1 a, _, x => match x with
    | .Call (.Name y _) [e] [] _ => decide (y = ("range" : Str)) && (b.gl y && (notStar e && cE n b a e))
    | _ => false
  | n + 1, b, .rng2 a c, _, x => match x with
    | .Call (.Name y _) [e, f] [] _ => decide (y = ("range" : Str)) && (b.gl y && (notStar e && (notStar f && (cE n b a e && cE n b c f))))
    | _ => false
  | n + 1, b, .enum p, tg, x => match tg, x with
    | .Tuple _ _ _, .Call (.Name y _) [e] [] _ => decide (y = ("enumerate" : Str)) && (b.gl y && (notStar e && cP n b p e))
    | _, _ => false
  | n + 1, b, .zip2 p q, tg, x => match tg, x with
    | .Tuple _ _ _, .Call (.Name y _) [e, f] [] _ => decide (y = ("zip" : Str)) && (b.gl y && (notStar e && (notStar f && (cP n b p e && cP n b q f))))
    | _, _ => false
  | n + 1, b, .zip3 p q r, tg, x => match x with
    | .Call (.Name y _) [e, f, g] [] _ => (plainTg tg || !notTup tg) && (decide (y = ("zip" : Str)) && (b.gl y && (notStar e && (notStar f && (notStar g && (cP n b p e && (cP n b q f && cP n b r g)))))))
    | _ => false
end
mutual
def cS : Nat → Tb → S → Stmt → Bool
  | 0, _, _, _ => false
  | n + 1, b, .asg g e, x => match x with
    | .Assign [tg] v pos => (gN g).all (fun i => !decide (i ∈ b.io)) && (cG n b g tg && (cE n b e v && (match tg with
      | .Name y p => (plainV v || notLoc (b.sc.names.lookup y)) || (match e with
        | .lc _ _ _ _ _ => (match v with
          | .ListComp _ _ s vp => (match b.sc.names.lookup y with
              | some .local => true
              | _ => false) && (decide (p.line = vp.line) && !anyComp s y)
          | _ => false)
        | _ => false)
      | .Tuple _ _ _ => notTup v
      | _ => false)))
    | _ => false
  | n + 1, b, .setIx i k e, x => match x with
    | .Assign [.Subscript (.Name y _) kx _] v _ => b.slot i y && (plainSub kx && (cE n b k kx && cE n b e v))
    | _ => false
  | n + 1, b, .aug i o e, x => match x with
    | .AugAssign (.Name y _) op v _ => decide (opA o = op) && (!decide (i ∈ b.io) && (b.put i y && cE n b e v))
    | _ => false
  | n + 1, b, .app i e, x => match x with
    | .Expr (.Call (.Attribute (.Name y _) m apos) [v] [] cpos) _ => decide (m = ("append" : Str)) && (b.slot i y && (lineOk apos cpos && (notStar v && cE n b e v)))
    | _ => false
  | n + 1, b, .ext i p, x => match x with
    | .Expr (.Call (.Attribute (.Name y _) m apos) [v] [] cpos) _ => decide (m = ("extend" : Str)) && (b.slot i y && (lineOk apos cpos && (notStar v && cP n b p v)))
    | _ => false
  | n + 1, b, .ex e, x => match x with
    | .Expr v _ => plainV v && cE n b e v
    | _ => false
  | n + 1, b, .ret e, x => match x with
    | .Return (some v) _ => cE n b e v
    | _ => false
  | n + 1, b, .retN, x => match x with
    | .Return none _ => true
    | _ => false
  | n + 1, b, .iff c a d, x => match x with
    | .If t y z _ => cC n b c t && (cSs n b a y && cSs n b d z)
    | _ => false
  | n + 1, b, .forr g it body, x => match x with
    | .For tg iter y [] _ => (gN g).all (fun i => !decide (i ∈ b.io)) && (notSet iter && (cI n b it tg iter && (cG n b g tg && cSs n b body y)))
    | _ => false
  | n + 1, b, .forB g i body, x => match x with
    | .For tg (.Name z _) y [] _ => (gN g).all (fun j => !decide (j ∈ i :: b.io)) && (b.slot i z && (cG n b g tg && cSs n { b with io := i :: b.io } body y))
    | _ => false
  | n + 1, b, .whl c body, x => match x with
    | .While t y [] _ => cC n b c t && cSs n b body y
    | _ => false
  | n + 1, b, .brk, x => match x with
    | .Break _ => true
    | _ => false
  | n + 1, b, .cnt, x => match x with
    | .Continue _ => true
    | _ => false
  | n + 1, b, .pas, x => match x with
    | .Pass _ => true
    | _ => false
  | n + 1, b, .kill _, x => false
  | n + 1, b, .frz _, x => false
def cSs : Nat → Tb → Ss → List Stmt → Bool
  | 0, _, _, _ => false
  | n + 1, b, .nil, xs => xs.isEmpty
  | n + 1, b, .cons s ss, xs => match s with
    | .kill _ => cSs n b ss xs
    | .frz _ => cSs n b ss xs
    | s => match xs with
      | x :: xs => cS n b s x && cSs n b ss xs
      | [] => false
end
end PL

end
section
set_option maxHeartbeats 4000000
/-! PLs: what chk passes is as the little language says. -/
namespace PL
open PySem PySem.Spec L2
open PyProof.Rows hiding St

def bltN : List Str := ["len", "list", "tuple", "int", "sorted", "abs", "sum", "all", "any", "str", "isinstance", "bool", "max", "min", "range", "enumerate", "zip", "set"]
structure Cxt (X : Cx) (Φ : Nat → Spec) (b : Tb) : Prop where
  N : X.N = b.N
  sc : X.env.scope = b.sc
  kd : b.sc.kind = .function
  calm : X.calm = true
  nd : b.N.Nodup
  st : ∀ x, locK (b.sw.names.lookup x) = true → L2.Loc b.sc x ∧ (X.fn x = true ∨ b.sc.names.lookup x = some .local)
  hu : X.A.units + 80 < cLine
  mg : ∀ x ∈ bltN, X.mg x = none
  fns : ∀ f x m, b.fs[f]? = some (x, m) → FnAt X x m (Φ f)

theorem seeK_vis {o : Option NameKind} (h : seeK o = true) : o = some .local ∨ o = some .cell ∨ o = some .free := by
  cases o with
  | none => cases h
  | some k => cases k <;> first | (cases h; done) | simp
theorem locK_or {o : Option NameKind} (h : locK o = true) : o = some .local ∨ o = some .cell := by
  cases o with
  | none => cases h
  | some k => cases k <;> first | (cases h; done) | simp
theorem glK_eq {o : Option NameKind} (h : glK o = true) : o = some .globalImplicit := by
  cases o with
  | none => cases h
  | some k => cases k <;> first | (cases h; done) | rfl
theorem rel_loc {sc : Scope} {x : Str} : ∀ {names : List (Str × NameKind)}, locK (names.lookup x) = true →
    (names.map fun (n, k) => if (k == .free && sc.kind == .function && sc.names.lookup n == some .cell) then (n, NameKind.cell) else (n, k)).lookup x = names.lookup x
  | [], h => by cases h
  | (n, k) :: r, h => by
    rw [List.map_cons]
    rw [List.lookup_cons] at h ⊢
    by_cases e : (x == n) = true
    · rw [e] at h
      have hk := locK_or h
      have : (k == NameKind.free) = false := by
        rcases hk with q | q <;> (cases q; rfl)
      simp only [this, Bool.false_and, Bool.false_eq_true, if_false, e]
      rw [List.lookup_cons, e]
    · have e' : (x == n) = false := by simpa using e
      rw [e'] at h
      have ih := rel_loc (sc := sc) h
      by_cases c : (k == NameKind.free && sc.kind == ScopeKind.function && sc.names.lookup n == some NameKind.cell) = true
      · simp only [c, if_true]
        rw [List.lookup_cons, e']
        exact ih
      · rw [if_neg c, List.lookup_cons, e']
        exact ih
section
variable {X : Cx} {Φ : Nat → Spec} {b : Tb}
theorem Cxt.gl (c : Cxt X Φ b) {x : Str} (h : b.gl x = true) : Gl X x := by
  unfold Gl PySem.Env.kindOf
  rw [c.sc]
  exact glK_eq h
theorem Cxt.var (c : Cxt X Φ b) {i : Nat} {x : Str} {pos : Pos} (h : b.slot i x = true) : PE X (.Name x pos) (tVar i) := by
  unfold Tb.slot at h
  simp only [Bool.and_eq_true, Bool.not_eq_true', decide_eq_true_eq] at h
  obtain ⟨⟨⟨h1, h2⟩, h3⟩, h4⟩ := h
  exact pe_var (by rw [c.N]; exact h1) (by unfold Vis; rw [c.sc]; exact seeK_vis h2) h3 h4
theorem Cxt.nm (c : Cxt X Φ b) {i : Nat} {x : Str} (h : b.put i x = true) : X.N[i]? = some x ∧ L2.Loc X.env.scope x ∧ (X.fn x = true ∨ X.env.scope.names.lookup x = some .local) := by
  unfold Tb.put at h
  simp only [Bool.and_eq_true, decide_eq_true_eq] at h
  rw [c.N, c.sc]
  exact ⟨h.1, c.st x h.2⟩
theorem Cxt.blk (c : Cxt X Φ b) {scope : Scope} (hk : scope.kind = .function) (s : Shared) (H : Hp) (C : Addr) (cl : List (Str × Addr)) (fp : List Addr) : Cxt (X.blk s H scope (compEnvC scope cl C X.env) fp) Φ (b.blk scope) := by
  refine ⟨c.N, ?_, hk, c.calm, c.nd, fun x h => ?_, c.hu, c.mg, fun f x m h => ⟨(c.fns f x m h).ex⟩⟩
  · show relabel scope X.env = relS b.sc scope
    unfold relabel relS PySem.Env.kindOf
    rw [c.sc]
  · have h : locK (scope.names.lookup x) = true := h
    have e : (relS b.sc scope).names.lookup x = scope.names.lookup x := rel_loc h
    show (L2.Loc (relS b.sc scope) x) ∧ ((scope.names.lookup x == some NameKind.cell) = true ∨ (relS b.sc scope).names.lookup x = some .local)
    unfold L2.Loc
    rw [e]
    rcases locK_or h with q | q
    · exact ⟨.inl q, .inr q⟩
    · exact ⟨.inr q, .inl (by rw [q]; rfl)⟩
end
/-- all that a fuel of n passes -/
structure Snd (Φ : Nat → Spec) (n : Nat) : Prop where
  e : ∀ {X : Cx} {b : Tb}, Cxt X Φ b → ∀ e x, cE n b e x = true → PE X x (tV X.K (wpE Φ e))
  and : ∀ {X : Cx} {b : Tb}, Cxt X Φ b → ∀ e xs pos, cAnd n b e xs = true → PE X (.BoolOp .And xs pos) (tV X.K (wpE Φ e))
  or : ∀ {X : Cx} {b : Tb}, Cxt X Φ b → ∀ e xs pos, cOr n b e xs = true → PE X (.BoolOp .Or xs pos) (tV X.K (wpE Φ e))
  es : ∀ {X : Cx} {b : Tb}, Cxt X Φ b → ∀ e xs, cEs n b e xs = true → PA X xs (tL X.K e (wpEs Φ e))
  kw : ∀ {X : Cx} {b : Tb}, Cxt X Φ b → ∀ e kws, cEs n b e (kws.map (·.value)) = true → PK X kws (tL X.K e (wpEs Φ e))
  p : ∀ {X : Cx} {b : Tb}, Cxt X Φ b → ∀ e x, cP n b e x = true → PE X x (tP X.K e (wpP Φ e))
  oe : ∀ {X : Cx} {b : Tb}, Cxt X Φ b → ∀ e x, cOe n b e x = true → PO X x (tO X.K (wpOe Φ e))
  c : ∀ {X : Cx} {b : Tb}, Cxt X Φ b → ∀ e x, cC n b e x = true → PT X x (tQ X.K (wpC Φ e))
  cand : ∀ {X : Cx} {b : Tb}, Cxt X Φ b → ∀ e xs pos, cCAnd n b e xs = true → PW X (.BoolOp .And xs pos) (tQ X.K (wpC Φ e))
  cor : ∀ {X : Cx} {b : Tb}, Cxt X Φ b → ∀ e xs pos, cCOr n b e xs = true → PW X (.BoolOp .Or xs pos) (tQ X.K (wpC Φ e))
  oc : ∀ {X : Cx} {b : Tb}, Cxt X Φ b → ∀ e xs, cOc n b e xs = true → PTs X xs (tQ X.K (wpOc Φ e))
  i : ∀ {X : Cx} {b : Tb}, Cxt X Φ b → ∀ e tg x, cI n b e tg x = true → PI X tg x (tI X.K e (wpI Φ e))
/-- targets -/
structure SndG (Φ : Nat → Spec) (n : Nat) : Prop where
  g : ∀ {X : Cx} {b : Tb}, Cxt X Φ b → ∀ g x, cG n b g x = true → PG X x (tGT X.K g)
  gs : ∀ {X : Cx} {b : Tb}, Cxt X Φ b → ∀ gs xs, cGs n b gs xs = true → xs.all notStar = true → PGs X xs (tGTs X.K gs) ∧ xs.length = gs.length
section
variable {Φ : Nat → Spec}
theorem sndG : ∀ n, SndG Φ n
  | 0 => ⟨fun _ g x h => by simp [cG] at h, fun _ g x h => by simp [cGs] at h⟩
  | n + 1 => by
    have ih := sndG n
    refine ⟨fun {X b} c g x h => ?_, fun {X b} c gs xs h hs => ?_⟩
    · cases g with
      | nm i =>
        cases x with
        | Name y p =>
          simp only [cG] at h
          obtain ⟨h1, h2, h3⟩ := c.nm h
          exact vg_nm (by rw [c.N]; exact c.nd) h1 h2 h3
        | _ => simp [cG] at h
      | tp gs =>
        cases x with
        | Tuple es k p =>
          simp only [cG, Bool.and_eq_true] at h
          obtain ⟨h1, h2⟩ := ih.gs c gs es h.2 h.1
          exact vg_tp c.calm h1 h2 h.1
        | _ => simp [cG] at h
    · cases gs with
      | nil =>
        cases xs with
        | nil => exact ⟨vgs_nil, rfl⟩
        | cons x xs => simp [cGs] at h
      | cons g gs =>
        cases xs with
        | nil => simp [cGs] at h
        | cons x xs =>
          simp only [cGs, Bool.and_eq_true] at h
          simp only [List.all_cons, Bool.and_eq_true] at hs
          obtain ⟨h1, h2⟩ := ih.gs c gs xs h.2 hs.2
          exact ⟨vgs_cons (ih.g c g x h.1) h1 hs.1, by simp [h2]⟩
end
end PL

end
section
set_option maxHeartbeats 4000000
/-! PLt: the expressions. -/
namespace PL
open PySem PySem.Spec L2
open PyProof.Rows hiding St

section
variable {Φ : Nat → Spec} {n : Nat}
theorem snd_e (ih : Snd Φ n) {X : Cx} {b : Tb} (c : Cxt X Φ b) : ∀ e x, cE (n + 1) b e x = true → PE X x (tV X.K (wpE Φ e)) := fun e x h => by
  have hu1 : X.A.units + 1 < cLine := by have := c.hu; omega
  have hu65 : X.A.units + 65 < cLine := by have := c.hu; omega
  have mg : ∀ x ∈ bltN, X.mg x = none := c.mg
  cases e with
  | non =>
    cases x with
    | Constant k _ _ => cases k <;> first | (simp [cE] at h; done) | exact ve_c pe_non (fun _ _ => rep_non) fun Γ Q w => by simpa only [wpE] using w
    | _ => simp [cE] at h
  | bl d =>
    cases x with
    | Constant k _ _ =>
      cases k with
      | bool d' =>
        simp only [cE, beq_iff_eq] at h
        subst h
        exact ve_c pe_bl (fun _ _ => rep_bl) fun Γ Q w => by simpa only [wpE] using w
      | _ => simp [cE] at h
    | _ => simp [cE] at h
  | int d =>
    cases x with
    | Constant k _ _ =>
      cases k with
      | int d' =>
        simp only [cE, decide_eq_true_eq] at h
        subst h
        exact ve_c pe_int (fun _ _ => rep_int) fun Γ Q w => by simpa only [wpE] using w
      | _ => simp [cE] at h
    | _ => simp [cE] at h
  | str d =>
    cases x with
    | Constant k _ _ =>
      cases k with
      | str d' =>
        simp only [cE, decide_eq_true_eq] at h
        subst h
        exact ve_c pe_str (fun _ _ => rep_str) fun Γ Q w => by simpa only [wpE] using w
      | _ => simp [cE] at h
    | _ => simp [cE] at h
  | cp i =>
    cases x with
    | Name y p => exact ve_cp (c.var (by simpa only [cE] using h))
    | _ => simp [cE] at h
  | take i =>
    cases x with
    | Name y p => exact ve_take (c.var (by simpa only [cE] using h))
    | _ => simp [cE] at h
  | fz e => exact ve_fz (ih.e c e x (by simpa only [cE] using h))
  | tup es =>
    cases x with
    | Tuple xs _ _ => exact ve_tup (vl_va (ih.es c es xs (by simpa only [cE] using h)))
    | _ => simp [cE] at h
  | lst es =>
    cases x with
    | List xs _ => exact ve_lst (vl_va (ih.es c es xs (by simpa only [cE] using h)))
    | _ => simp [cE] at h
  | dic0 =>
    cases x with
    | Dict ks vs p =>
      cases ks with
      | nil =>
        cases vs with
        | nil => exact ve_dic0
        | cons _ _ => simp [cE] at h
      | cons _ _ => simp [cE] at h
    | _ => simp [cE] at h
  | op o a d =>
    cases x with
    | BinOp l op r p =>
      simp only [cE, Bool.and_eq_true, decide_eq_true_eq] at h
      obtain ⟨rfl, h1, h2⟩ := h
      exact ve_op (ih.e c _ _ h1) (ih.e c _ _ h2)
    | _ => simp [cE] at h
  | neg a =>
    cases x with
    | UnaryOp u l p =>
      cases u with
      | USub => exact ve_neg (ih.e c _ _ (by simpa only [cE] using h))
      | _ => simp [cE] at h
    | _ => simp [cE] at h
  | and a d =>
    cases x with
    | BoolOp o xs p =>
      cases o with
      | And =>
        cases xs with
        | nil => simp [cE] at h
        | cons l xs =>
          cases xs with
          | nil => simp [cE] at h
          | cons r rs =>
            simp only [cE, Bool.and_eq_true] at h
            exact ve_and (ih.e c _ _ h.1) (ih.and c _ _ _ h.2)
      | Or => simp [cE] at h
    | _ => simp [cE] at h
  | or a d =>
    cases x with
    | BoolOp o xs p =>
      cases o with
      | Or =>
        cases xs with
        | nil => simp [cE] at h
        | cons l xs =>
          cases xs with
          | nil => simp [cE] at h
          | cons r rs =>
            simp only [cE, Bool.and_eq_true] at h
            exact ve_or (ih.e c _ _ h.1) (ih.or c _ _ _ h.2)
      | And => simp [cE] at h
    | _ => simp [cE] at h
  | nott p =>
    cases x with
    | UnaryOp u l _ =>
      cases u with
      | Not => exact ve_nott (ih.p c _ _ (by simpa only [cE] using h))
      | _ => simp [cE] at h
    | _ => simp [cE] at h
  | cmp r p q =>
    cases x with
    | Compare l ops cs _ =>
      cases ops with
      | nil => simp [cE] at h
      | cons op ops =>
        cases ops with
        | cons _ _ => simp [cE] at h
        | nil =>
          cases cs with
          | nil => simp [cE] at h
          | cons d cs =>
            cases cs with
            | cons _ _ => simp [cE] at h
            | nil =>
              simp only [cE, Bool.and_eq_true, decide_eq_true_eq, Bool.not_eq_true'] at h
              obtain ⟨rfl, h1, h2, h3⟩ := h
              exact ve_cmp hu65 (ih.p c _ _ h2) (ih.p c _ _ h3) h1
    | _ => simp [cE] at h
  | chain r1 r2 p q s =>
    cases x with
    | Compare l ops cs _ =>
      match ops, cs, h with
      | [op1, op2], [d, e], h =>
        simp only [cE, Bool.and_eq_true, decide_eq_true_eq, Bool.not_eq_true'] at h
        obtain ⟨rfl, rfl, h1, h2, h3, h4⟩ := h
        exact ve_chain hu65 (ih.e c _ _ h2) (ih.e c _ _ h3) (ih.e c _ _ h4) h1
      | [], _, h => simp [cE] at h
      | [_], _, h => simp [cE] at h
      | _ :: _ :: _ :: _, _, h => simp [cE] at h
      | [_, _], [], h => simp [cE] at h
      | [_, _], [_], h => simp [cE] at h
      | [_, _], _ :: _ :: _ :: _, h => simp [cE] at h
    | _ => simp [cE] at h
  | ifx t a d =>
    cases x with
    | IfExp t' y z _ =>
      simp only [cE, Bool.and_eq_true] at h
      exact ve_ifx (ih.c c _ _ h.1) (ih.e c _ _ h.2.1) (ih.e c _ _ h.2.2)
    | _ => simp [cE] at h
  | idx p i =>
    cases x with
    | Subscript o k _ =>
      simp only [cE, Bool.and_eq_true] at h
      exact ve_idx hu1 (ih.p c _ _ h.2.1) (ih.e c _ _ h.2.2) (plainIx h.1)
    | _ => simp [cE] at h
  | sl p lo hi =>
    cases x with
    | Subscript o k _ =>
      cases k with
      | Slice l u st _ =>
        cases st with
        | none =>
          simp only [cE, Bool.and_eq_true] at h
          exact ve_sl (ih.p c _ _ h.1) (ih.oe c _ _ h.2.1) (ih.oe c _ _ h.2.2)
        | some _ => simp [cE] at h
      | _ => simp [cE] at h
    | _ => simp [cE] at h
  | call f es =>
    simp only [cE] at h
    split at h
    · rename_i y' p' args pos'
      simp only [Bool.and_eq_true, Bool.not_eq_true'] at h
      obtain ⟨h1, h2, h3, h4, h5⟩ := h
      split at h1
      · rename_i z m hf
        simp only [Bool.and_eq_true, decide_eq_true_eq] at h1
        obtain ⟨rfl, hm⟩ := h1
        have F := c.fns f _ m hf
        have A := ih.es c es _ h5
        cases args with
        | cons a as => exact ve_call F hm (c.gl h2) h3 A h4
        | nil =>
          cases es with
          | nil => exact ve_call0 F hm (c.gl h2) h3
          | cons _ _ => cases n <;> simp [cEs] at h5
          | lend _ _ => cases n <;> simp [cEs] at h5
      · cases h1
    · simp only [Bool.and_eq_true, Bool.not_eq_true'] at h
      obtain ⟨h1, h2, h3, h4, h5⟩ := h
      split at h1
      · rename_i z m hf
        simp only [Bool.and_eq_true, decide_eq_true_eq] at h1
        obtain ⟨rfl, hm, hn⟩ := h1
        exact ve_callK (c.fns f _ m hf) hm (by intro e; rw [e] at h2; simp at h2) hn (c.gl h3) h4 (ih.kw c es _ h5)
      · cases h1
    · cases h
  | bi t p =>
    simp only [cE] at h
    split at h
    · simp only [Bool.and_eq_true, decide_eq_true_eq] at h
      obtain ⟨rfl, h1, h2, h3⟩ := h
      exact ve_bi c.calm c.hu (c.gl h1) (mg _ (by cases t <;> decide)) (ih.p c _ _ h3) h2
    · cases h
  | lrg a d =>
    simp only [cE] at h
    split at h
    · simp only [Bool.and_eq_true, decide_eq_true_eq] at h
      obtain ⟨rfl, rfl, h1, h2, h3, h4, h5, h6⟩ := h
      exact ve_lrg2 c.calm (c.gl h1) (mg _ (by decide)) (c.gl h2) (mg _ (by decide)) (ih.e c _ _ h5) (ih.e c _ _ h6) ⟨h3, h4⟩
    · simp only [Bool.and_eq_true, decide_eq_true_eq] at h
      obtain ⟨h0, rfl, rfl, h1, h2, h3, h4⟩ := h
      split at h0
      · simp only [decide_eq_true_eq] at h0
        subst h0
        exact ve_lrg1 c.calm (c.gl h1) (mg _ (by decide)) (c.gl h2) (mg _ (by decide)) (ih.e c _ _ h4) h3
      · cases h0
    · cases h
  | mm mx a d =>
    simp only [cE] at h
    split at h
    · simp only [Bool.and_eq_true, decide_eq_true_eq] at h
      obtain ⟨rfl, h1, h2, h3, h4, h5⟩ := h
      exact ve_mm c.calm c.hu (c.gl h1) (mg _ (by cases mx <;> decide)) (ih.e c _ _ h4) (ih.e c _ _ h5) ⟨h2, h3⟩
    · cases h
  | szip a d =>
    simp only [cE] at h
    split at h
    · simp only [Bool.and_eq_true, decide_eq_true_eq] at h
      obtain ⟨rfl, rfl, h1, h2, h3, h4, h5, h6⟩ := h
      exact ve_szip c.calm c.hu (c.gl h1) (mg _ (by decide)) (c.gl h2) (mg _ (by decide)) (ih.e c _ _ h5) (ih.e c _ _ h6) ⟨h3, h4⟩
    · cases h
  | sset p =>
    simp only [cE] at h
    split at h
    · simp only [Bool.and_eq_true, decide_eq_true_eq] at h
      obtain ⟨rfl, rfl, h1, h2, h3, h4⟩ := h
      exact ve_sset c.calm c.hu (c.gl h1) (mg _ (by decide)) (c.gl h2) (mg _ (by decide)) (ih.p c _ _ h4) h3
    · cases h
  | mml mx p =>
    simp only [cE] at h
    split at h
    · simp only [Bool.and_eq_true, decide_eq_true_eq] at h
      obtain ⟨rfl, h1, h2, h3⟩ := h
      exact ve_mml c.calm c.hu (c.gl h1) (mg _ (by cases mx <;> decide)) (ih.p c _ _ h3) h2
    · cases h
  | isi p ty =>
    simp only [cE] at h
    split at h
    · simp only [Bool.and_eq_true, decide_eq_true_eq] at h
      obtain ⟨rfl, rfl, h1, h2, h3, h4⟩ := h
      exact ve_isi (c.gl h1) (mg _ (by decide)) (c.gl h2) (mg _ (by cases ty <;> decide)) (ih.p c _ _ h4) h3
    · cases h
  | lc own it g d e =>
    simp only [cE] at h
    split at h
    · simp only [Bool.and_eq_true, decide_eq_true_eq] at h
      obtain ⟨rfl, h1, h2, h3, h4, h5, h6, h7⟩ := h
      have ok := blkOk_by h2
      have ow : (ownP b.N own).map (·.2) = own := by unfold ownP; rw [List.map_map]; exact List.map_id own
      have r := fun pos => ve_lc (pos := pos) (Φ := Φ) (g := g) (c := d) (e := e) c.calm (by rw [c.N]; exact c.nd) (ih.i c _ _ _ h4) (by rw [c.N, c.sc]; exact ok) (fun s H C cl fp => (sndG n).g (c.blk ok.kind s H C cl fp) _ _ h5) (fun s H C cl fp => ih.oc (c.blk ok.kind s H C cl fp) _ _ h6)
        (fun s H C cl fp => ih.e (c.blk ok.kind s H C cl fp) _ _ h7) h1 (by rw [ow]; intro i hi; exact of_decide_eq_true (List.all_eq_true.mp h3 i hi))
      simp only [ow] at r
      exact r _
    · cases h
  | lc2 own it g d own1 it1 g1 d1 e =>
    simp only [cE] at h
    split at h
    · simp only [Bool.and_eq_true, decide_eq_true_eq] at h
      obtain ⟨rfl, rfl, h1, h1', h2, h3, h3', h3'', h4, h5, h6, h4', h5', h6', h7⟩ := h
      have ok := blkOk_by h2
      have ow : (ownP b.N own).map (·.2) = own := by unfold ownP; rw [List.map_map]; exact List.map_id own
      have r := fun pos => ve_lc2 (pos := pos) (Φ := Φ) (g := g) (c := d) (e := e) (g1 := g1) (c1 := d1) (own1 := own1) (it1 := it1) c.calm (by rw [c.N]; exact c.nd) (ih.i c _ _ _ h4) (by rw [c.N, c.sc]; exact ok) (fun s H C cl fp => (sndG n).g (c.blk ok.kind s H C cl fp) _ _ h5) (fun s H C cl fp => ih.oc (c.blk ok.kind s H C cl fp) _ _ h6)
        (fun s H C cl fp => ih.i (c.blk ok.kind s H C cl fp) _ _ _ h4') (fun s H C cl fp => (sndG n).g (c.blk ok.kind s H C cl fp) _ _ h5') (fun s H C cl fp => ih.oc (c.blk ok.kind s H C cl fp) _ _ h6')
        (fun s H C cl fp => ih.e (c.blk ok.kind s H C cl fp) _ _ h7) h1 h1' (by rw [ow]; intro i hi; exact of_decide_eq_true (List.all_eq_true.mp h3 i hi)) (fun i hi => of_decide_eq_true (List.all_eq_true.mp h3' i hi)) (by rw [ow]; intro i hi; exact of_decide_eq_true (List.all_eq_true.mp h3'' i hi))
      simp only [ow] at r
      exact r _
    · cases h
  | pop i =>
    simp only [cE] at h
    split at h
    · simp only [Bool.and_eq_true, decide_eq_true_eq] at h
      obtain ⟨rfl, h1, h2⟩ := h
      exact ve_pop (c.var h1) rfl h2
    · cases h
  | get p k d =>
    simp only [cE] at h
    split at h
    · simp only [Bool.and_eq_true, decide_eq_true_eq] at h
      obtain ⟨rfl, h1, h2, h3, h4, h5, h6, h7⟩ := h
      exact ve_get hu1 (ih.p c _ _ h5) (ih.e c _ _ h6) (ih.e c _ _ h7) h1 h2 ⟨h3, h4⟩
    · cases h
  | index p k =>
    simp only [cE] at h
    split at h
    · simp only [Bool.and_eq_true, decide_eq_true_eq] at h
      obtain ⟨rfl, h1, h2, h3, h4, h5⟩ := h
      exact ve_index hu65 (ih.p c _ _ h4) (ih.e c _ _ h5) h1 h2 h3
    · cases h
theorem snd_and (ih : Snd Φ n) {X : Cx} {b : Tb} (c : Cxt X Φ b) : ∀ e xs pos, cAnd (n + 1) b e xs = true → PE X (.BoolOp .And xs pos) (tV X.K (wpE Φ e)) := fun e xs pos h => by
  match xs, h with
  | [], h => simp [cAnd] at h
  | [x], h => exact pe_one (ih.e c _ _ (by simpa only [cAnd] using h))
  | x :: y :: ys, h =>
    cases e <;> first | (simp [cAnd] at h; done) | skip
    simp only [cAnd, Bool.and_eq_true] at h
    exact ve_and (ih.e c _ _ h.1) (ih.and c _ _ _ h.2)
theorem snd_or (ih : Snd Φ n) {X : Cx} {b : Tb} (c : Cxt X Φ b) : ∀ e xs pos, cOr (n + 1) b e xs = true → PE X (.BoolOp .Or xs pos) (tV X.K (wpE Φ e)) := fun e xs pos h => by
  match xs, h with
  | [], h => simp [cOr] at h
  | [x], h => exact pe_one (ih.e c _ _ (by simpa only [cOr] using h))
  | x :: y :: ys, h =>
    cases e <;> first | (simp [cOr] at h; done) | skip
    simp only [cOr, Bool.and_eq_true] at h
    exact ve_or (ih.e c _ _ h.1) (ih.or c _ _ _ h.2)
theorem snd_es (ih : Snd Φ n) {X : Cx} {b : Tb} (c : Cxt X Φ b) : ∀ e xs, cEs (n + 1) b e xs = true → PA X xs (tL X.K e (wpEs Φ e)) := fun e xs h => by
  cases e with
  | nil =>
    cases xs with
    | nil => exact vl_nil
    | cons _ _ => simp [cEs] at h
  | cons e es =>
    cases xs with
    | nil => simp [cEs] at h
    | cons x xs =>
      simp only [cEs, Bool.and_eq_true] at h
      exact vl_cons (ih.e c _ _ h.2.1) (ih.es c _ _ h.2.2) (star_cons h.1)
  | lend i es =>
    simp only [cEs] at h
    split at h
    · simp only [Bool.and_eq_true] at h
      exact vl_lend (c.var h.1) (ih.es c _ _ h.2) (star_cons rfl)
    · cases h
theorem snd_kw (ih : Snd Φ n) {X : Cx} {b : Tb} (c : Cxt X Φ b) : ∀ e kws, cEs (n + 1) b e (kws.map (·.value)) = true → PK X kws (tL X.K e (wpEs Φ e)) := fun e kws h => by
  cases e with
  | nil =>
    cases kws with
    | nil => exact vk_nil
    | cons _ _ => simp [cEs] at h
  | cons e es =>
    cases kws with
    | nil => simp [cEs] at h
    | cons x xs =>
      obtain ⟨a, v, kp⟩ := x
      simp only [List.map_cons, cEs, Bool.and_eq_true] at h
      exact vk_cons (ih.e c _ _ h.2.1) (ih.kw c _ _ h.2.2)
  | lend i es =>
    cases kws with
    | nil => simp [cEs] at h
    | cons x xs =>
      obtain ⟨a, v, kp⟩ := x
      simp only [List.map_cons, cEs] at h
      split at h
      · rename_i e1
        simp only [Bool.and_eq_true] at h
        cases e1
        exact vk_lend (c.var h.1) (ih.kw c _ _ h.2)
      · cases h
theorem snd_p (ih : Snd Φ n) {X : Cx} {b : Tb} (c : Cxt X Φ b) : ∀ e x, cP (n + 1) b e x = true → PE X x (tP X.K e (wpP Φ e)) := fun e x h => by
  cases e with
  | var i =>
    simp only [cP] at h
    split at h
    · exact vp_var (c.var h)
    · cases h
  | tmp e => exact vp_tmp (ih.e c _ _ (by simpa only [cP] using h))
theorem snd_oe (ih : Snd Φ n) {X : Cx} {b : Tb} (c : Cxt X Φ b) : ∀ e x, cOe (n + 1) b e x = true → PO X x (tO X.K (wpOe Φ e)) := fun e x h => by
  cases e with
  | no =>
    cases x with
    | none => exact vo_no
    | some _ => simp [cOe] at h
  | so e =>
    cases x with
    | none => simp [cOe] at h
    | some x => exact vo_so (ih.e c _ _ (by simpa only [cOe] using h))
theorem plain_true {x : Expr} (h : plainT x = true) {env : PySem.Env} : ∀ whole, isTrue x env whole = (do let v ← whole; standAt x.pos; holding [v] (truthy v)) := fun whole => by
  cases x <;> first | rfl | (cases h; done) | skip
  rename_i u l p
  cases u <;> first | rfl | (cases h; done)
theorem snd_c (ih : Snd Φ n) {X : Cx} {b : Tb} (c : Cxt X Φ b) : ∀ e x, cC (n + 1) b e x = true → PT X x (tQ X.K (wpC Φ e)) := fun e x h => by
  have hu65 : X.A.units + 65 < cLine := by have := c.hu; omega
  cases e with
  | val p =>
    simp only [cC, Bool.and_eq_true] at h
    exact vt_val (ih.p c _ _ h.2) (plain_true h.1)
  | and a d =>
    simp only [cC] at h
    split at h
    · simp only [Bool.and_eq_true] at h
      exact (vw_and (ih.c c _ _ h.1) (ih.cand c _ _ _ h.2)).pt
    · cases h
  | or a d =>
    simp only [cC] at h
    split at h
    · simp only [Bool.and_eq_true] at h
      exact (vw_or (ih.c c _ _ h.1) (ih.cor c _ _ _ h.2)).pt
    · cases h
  | not a =>
    simp only [cC] at h
    split at h
    · exact vt_not (ih.c c _ _ h)
    · cases h
  | cmp r p q =>
    simp only [cC] at h
    split at h
    · simp only [Bool.and_eq_true, decide_eq_true_eq, Bool.not_eq_true'] at h
      obtain ⟨rfl, h1, h2, h3⟩ := h
      exact vt_cmp hu65 (ih.p c _ _ h2) (ih.p c _ _ h3) h1
    · cases h
  | chain r1 r2 p q s =>
    simp only [cC] at h
    split at h
    · simp only [Bool.and_eq_true, decide_eq_true_eq, Bool.not_eq_true'] at h
      obtain ⟨rfl, rfl, h1, h2, h3, h4⟩ := h
      exact vt_chain hu65 (ih.e c _ _ h2) (ih.e c _ _ h3) (ih.e c _ _ h4) h1
    · cases h
theorem snd_cand (ih : Snd Φ n) {X : Cx} {b : Tb} (c : Cxt X Φ b) : ∀ e xs pos, cCAnd (n + 1) b e xs = true → PW X (.BoolOp .And xs pos) (tQ X.K (wpC Φ e)) := fun e xs pos h => by
  match xs, h with
  | [], h => simp [cCAnd] at h
  | [x], h => exact pw_and1 (ih.c c _ _ (by simpa only [cCAnd] using h))
  | x :: y :: ys, h =>
    cases e <;> first | (simp [cCAnd] at h; done) | skip
    simp only [cCAnd, Bool.and_eq_true] at h
    exact vw_and (ih.c c _ _ h.1) (ih.cand c _ _ _ h.2)
theorem snd_cor (ih : Snd Φ n) {X : Cx} {b : Tb} (c : Cxt X Φ b) : ∀ e xs pos, cCOr (n + 1) b e xs = true → PW X (.BoolOp .Or xs pos) (tQ X.K (wpC Φ e)) := fun e xs pos h => by
  match xs, h with
  | [], h => simp [cCOr] at h
  | [x], h => exact pw_or1 (ih.c c _ _ (by simpa only [cCOr] using h))
  | x :: y :: ys, h =>
    cases e <;> first | (simp [cCOr] at h; done) | skip
    simp only [cCOr, Bool.and_eq_true] at h
    exact vw_or (ih.c c _ _ h.1) (ih.cor c _ _ _ h.2)
theorem snd_oc (ih : Snd Φ n) {X : Cx} {b : Tb} (c : Cxt X Φ b) : ∀ e xs, cOc (n + 1) b e xs = true → PTs X xs (tQ X.K (wpOc Φ e)) := fun e xs h => by
  cases e with
  | no =>
    cases xs with
    | nil => exact vts_no
    | cons _ _ => simp [cOc] at h
  | so d =>
    simp only [cOc] at h
    split at h
    · exact vts_so (ih.c c _ _ h)
    · cases h
theorem snd_i (ih : Snd Φ n) {X : Cx} {b : Tb} (c : Cxt X Φ b) : ∀ e tg x, cI (n + 1) b e tg x = true → PI X tg x (tI X.K e (wpI Φ e)) := fun e tg x h => by
  have mg : ∀ x ∈ bltN, X.mg x = none := c.mg
  cases e with
  | zips p =>
    simp only [cI] at h
    split at h
    · simp only [Bool.and_eq_true, decide_eq_true_eq] at h
      obtain ⟨h0, rfl, h1, h2⟩ := h
      exact vi_zips h0 (c.gl h1) (mg _ (by decide)) (ih.p c _ _ h2)
    · cases h
  | seq p => exact vi_seq (ih.p c _ _ (by simpa only [cI] using h))
  | rng1 a =>
    simp only [cI] at h
    split at h
    · simp only [Bool.and_eq_true, decide_eq_true_eq] at h
      obtain ⟨rfl, h1, h2, h3⟩ := h
      exact vi_rng1 (c.gl h1) (mg _ (by decide)) (ih.e c _ _ h3) h2
    · cases h
  | rng2 a d =>
    simp only [cI] at h
    split at h
    · simp only [Bool.and_eq_true, decide_eq_true_eq] at h
      obtain ⟨rfl, h1, h2, h3, h4, h5⟩ := h
      exact vi_rng2 (c.gl h1) (mg _ (by decide)) (ih.e c _ _ h4) (ih.e c _ _ h5) ⟨h2, h3⟩
    · cases h
  | enum p =>
    simp only [cI] at h
    split at h
    · simp only [Bool.and_eq_true, decide_eq_true_eq] at h
      obtain ⟨rfl, h1, h2, h3⟩ := h
      exact vi_enum (c.gl h1) (mg _ (by decide)) (ih.p c _ _ h3) h2
    · cases h
  | zip2 p q =>
    simp only [cI] at h
    split at h
    · simp only [Bool.and_eq_true, decide_eq_true_eq] at h
      obtain ⟨rfl, h1, h2, h3, h4, h5⟩ := h
      exact vi_zip2 (c.gl h1) (mg _ (by decide)) (ih.p c _ _ h4) (ih.p c _ _ h5) ⟨h2, h3⟩
    · cases h
  | zip3 p q r =>
    simp only [cI] at h
    split at h
    · simp only [Bool.and_eq_true, decide_eq_true_eq] at h
      obtain ⟨h0, rfl, h1, h2, h3, h4, h5, h6, h7⟩ := h
      rcases Bool.or_eq_true_iff.mp h0 with h0 | h0
      · exact vi_zip3n h0 (c.gl h1) (mg _ (by decide)) (ih.p c _ _ h5) (ih.p c _ _ h6) (ih.p c _ _ h7) ⟨h2, h3, h4⟩
      · cases tg <;> first
          | exact vi_zip3 (c.gl h1) (mg _ (by decide)) (ih.p c _ _ h5) (ih.p c _ _ h6) (ih.p c _ _ h7) ⟨h2, h3, h4⟩
          | (simp [notTup] at h0)
    · cases h
theorem snd : ∀ n, Snd Φ n
  | 0 => ⟨fun _ _ _ h => by simp [cE] at h, fun _ _ _ _ h => by simp [cAnd] at h, fun _ _ _ _ h => by simp [cOr] at h, fun _ _ _ h => by simp [cEs] at h, fun _ _ _ h => by simp [cEs] at h, fun _ _ _ h => by simp [cP] at h, fun _ _ _ h => by simp [cOe] at h, fun _ _ _ h => by simp [cC] at h,
    fun _ _ _ _ h => by simp [cCAnd] at h, fun _ _ _ _ h => by simp [cCOr] at h, fun _ _ _ h => by simp [cOc] at h, fun _ _ _ _ h => by simp [cI] at h⟩
  | n + 1 =>
    have ih := snd n
    ⟨fun c => snd_e ih c, fun c => snd_and ih c, fun c => snd_or ih c, fun c => snd_es ih c, fun c => snd_kw ih c, fun c => snd_p ih c, fun c => snd_oe ih c, fun c => snd_c ih c, fun c => snd_cand ih c, fun c => snd_cor ih c, fun c => snd_oc ih c, fun c => snd_i ih c⟩
end
end PL

end
section
set_option maxHeartbeats 4000000
/-! PLu: statements that chk passes; a def by its VC. -/
namespace PL
open PySem PySem.Spec L2
open PyProof.Rows hiding St

theorem swaps_lc {elt : Expr} {gens : List Comprehension} {s : Scope} {vp p : Pos} {y : Str} {l : Nat} {env : PySem.Env} (hk : env.scope.kind = .function) (h1 : env.scope.names.lookup y = some .local) (h2 : p.line = vp.line) (h3 : anyComp s y = false) :
    swapsWith (.ListComp elt gens s vp) (some (.Name y p)) l env = pure true := by
  unfold swapsWith
  show (pure (env.blockKind == .function && env.kindOf y == some .local && p.line == vp.line && !(s.names.any fun (n, k) => n == y && (k == .local || k == .cell))) : Sem Bool) = pure true
  have e1 : env.blockKind = .function := by unfold PySem.Env.blockKind; rw [hk]; rfl
  have e2 : env.kindOf y = some .local := h1
  have e3 : (s.names.any fun (n, k) => n == y && (k == NameKind.local || k == NameKind.cell)) = false := h3
  rw [e1, e2, h2, e3]
  simp
theorem swaps_cell {v : Expr} {p : Pos} {y : Str} {l : Nat} {env : PySem.Env} (h : notLoc (env.scope.names.lookup y) = true) : swapsWith v (some (.Name y p)) l env = pure false := by
  have e2 : (env.kindOf y == some NameKind.local) = false := by
    show (env.scope.names.lookup y == some NameKind.local) = false
    cases q : env.scope.names.lookup y with
    | none => rfl
    | some k =>
      rw [q] at h
      cases k <;> first | rfl | cases h
  have key : ∀ (s : Scope) (vp : Pos), (pure (env.blockKind == .function && env.kindOf y == some .local && p.line == vp.line && !(s.names.any fun (n, k) => n == y && (k == .local || k == .cell))) : Sem Bool) = pure false := fun s vp => by
    rw [e2]; simp
  unfold swapsWith
  cases v <;> first | rfl | exact key _ _
structure SndS (Φ : Nat → Spec) (n : Nat) : Prop where
  s : ∀ {X : Cx} {b : Tb}, Cxt X Φ b → PassesOwn (model X.prog X.w) X.A X.env X.xe → ∀ s x, cS n b s x = true → PS X x (tS X.K b.io (wpS Φ s))
  ss : ∀ {X : Cx} {b : Tb}, Cxt X Φ b → PassesOwn (model X.prog X.w) X.A X.env X.xe → ∀ s x, cSs n b s x = true → PSs X x (tS X.K b.io (wpSs Φ s))
theorem all_io {is io : List Nat} (h : (is.all fun i => !decide (i ∈ io)) = true) : ∀ i ∈ is, i ∉ io := fun i hi m => by
  have := List.all_eq_true.mp h i hi
  simp [m] at this
section
variable {Φ : Nat → Spec} {n : Nat}
theorem snd_s (ih : SndS Φ n) {X : Cx} {b : Tb} (c : Cxt X Φ b) (hp : PassesOwn (model X.prog X.w) X.A X.env X.xe) : ∀ s x, cS (n + 1) b s x = true → PS X x (tS X.K b.io (wpS Φ s)) := fun s x h => by
  have hu1 : X.A.units + 1 < cLine := by have := c.hu; omega
  have se := snd (Φ := Φ) n
  cases s with
  | asg g e =>
    simp only [cS] at h
    split at h
    · rename_i tg v pos
      simp only [Bool.and_eq_true] at h
      obtain ⟨h1, h2, h3, h4⟩ := h
      have io := all_io h1
      split at h4
      · rename_i y p
        cases g with
        | tp gs => cases n <;> simp [cG] at h2
        | nm i =>
          have hn : b.put i y = true := by
            cases n with
            | zero => simp [cG] at h2
            | succ n => simpa only [cG] using h2
          obtain ⟨a1, a2, a3⟩ := c.nm hn
          have hio : i ∉ b.io := io i (by simp [gN])
          rcases Bool.or_eq_true_iff.mp h4 with h4 | h4
          · rcases Bool.or_eq_true_iff.mp h4 with h4 | h4
            · exact vs_nm (by rw [c.N]; exact c.nd) a1 a2 a3 (se.e c _ _ h3) (swaps_plain h4) hio
            · exact vs_nm (by rw [c.N]; exact c.nd) a1 a2 a3 (se.e c _ _ h3) (swaps_cell (by rw [c.sc]; exact h4)) hio
          · revert h3 h4
            cases e with
            | lc own it g' d e => ?_
            | _ => intro h3 h4; simp at h4
            cases v with
            | ListComp elt gens sc' vp => ?_
            | _ => intro h3 h4; simp at h4
            intro h3 h4
            simp only [Bool.and_eq_true, decide_eq_true_eq, Bool.not_eq_true'] at h4
            obtain ⟨h5, h6, h7⟩ := h4
            have hl : X.env.scope.names.lookup y = some .local := by
              rw [c.sc]
              split at h5
              · assumption
              · cases h5
            have sw := fun l => swaps_lc (elt := elt) (gens := gens) (l := l) (env := X.env) (by rw [c.sc]; exact c.kd) hl h6 h7
            cases n with
            | zero => simp [cE] at h3
            | succ n =>
              have sn := snd (Φ := Φ) n
              simp only [cE] at h3
              split at h3
              · rename_i heq
                cases heq
                simp only [Bool.and_eq_true, decide_eq_true_eq] at h3
                obtain ⟨rfl, g1, g2, g3, g4, g5, g6, g7⟩ := h3
                have ok := blkOk_by g2
                have ow : (ownP b.N own).map (·.2) = own := by unfold ownP; rw [List.map_map]; exact List.map_id own
                have r := fun spos => ps_lc (spos := spos) (i := i) (Φ := Φ) (g := g') (c := d) (e := e) (py := p) (pos := vp) c.calm (by rw [c.N]; exact c.nd) a1 hl (sw _) (sn.i c _ _ _ g4) (by rw [c.N, c.sc]; exact ok) (fun s H C cl fp => (sndG n).g (c.blk ok.kind s H C cl fp) _ _ g5) (fun s H C cl fp => sn.oc (c.blk ok.kind s H C cl fp) _ _ g6)
                  (fun s H C cl fp => sn.e (c.blk ok.kind s H C cl fp) _ _ g7) g1 (by rw [ow]; intro i hi; exact of_decide_eq_true (List.all_eq_true.mp g3 i hi))
                simp only [ow] at r
                exact vs_lc (r _) hio
              · cases h3
      · rename_i es k p
        cases g with
        | nm i => cases n <;> simp [cG] at h2
        | tp gs => exact vs_tp ((sndG n).g c _ _ h2) (se.e c _ _ h3) h4 io
      · cases h4
    · cases h
  | setIx i k e =>
    simp only [cS] at h
    split at h
    · simp only [Bool.and_eq_true] at h
      exact vs_setIx hu1 (c.var h.1) (se.e c _ _ h.2.2.1) (se.e c _ _ h.2.2.2) h.2.1
    · cases h
  | aug i o e =>
    simp only [cS] at h
    split at h
    · simp only [Bool.and_eq_true, decide_eq_true_eq, Bool.not_eq_true', decide_eq_false_iff_not] at h
      obtain ⟨rfl, h1, h2, h3⟩ := h
      obtain ⟨a1, a2, a3⟩ := c.nm h2
      exact vs_aug (by rw [c.N]; exact c.nd) a1 a2 a3 (se.e c _ _ h3) h1
    · cases h
  | app i e =>
    simp only [cS] at h
    split at h
    · simp only [Bool.and_eq_true, decide_eq_true_eq] at h
      obtain ⟨rfl, h1, h2, h3, h4⟩ := h
      exact vs_app (c.var h1) (se.e c _ _ h4) rfl h2 h3
    · cases h
  | ext i p =>
    simp only [cS] at h
    split at h
    · simp only [Bool.and_eq_true, decide_eq_true_eq] at h
      obtain ⟨rfl, h1, h2, h3, h4⟩ := h
      exact vs_ext (c.var h1) (se.p c _ _ h4) rfl h2 h3
    · cases h
  | ex e =>
    simp only [cS] at h
    split at h
    · simp only [Bool.and_eq_true] at h
      exact vs_ex (se.e c _ _ h.2) h.1
    · cases h
  | ret e =>
    simp only [cS] at h
    split at h
    · exact vs_ret (se.e c _ _ h)
    · cases h
  | retN =>
    simp only [cS] at h
    split at h
    · exact vs_retN
    · cases h
  | iff d a e =>
    simp only [cS] at h
    split at h
    · simp only [Bool.and_eq_true] at h
      exact vs_iff (se.c c _ _ h.1) (ih.ss c hp _ _ h.2.1) (ih.ss c hp _ _ h.2.2)
    · cases h
  | forr g it body =>
    simp only [cS] at h
    split at h
    · simp only [Bool.and_eq_true] at h
      exact vs_forr hp c.calm (se.i c _ _ _ h.2.2.1) ((sndG n).g c _ _ h.2.2.2.1) (ih.ss c hp _ _ h.2.2.2.2) h.2.1 (all_io h.1)
    · cases h
  | forB g i body =>
    simp only [cS] at h
    split at h
    · simp only [Bool.and_eq_true] at h
      have c2 : Cxt X Φ { b with io := i :: b.io } := ⟨c.N, c.sc, c.kd, c.calm, c.nd, c.st, c.hu, c.mg, c.fns⟩
      exact vs_forB hp c.calm (c.var h.2.1) ((sndG n).g c _ _ h.2.2.1) (ih.ss c2 hp _ _ h.2.2.2) rfl (all_io h.1)
    · cases h
  | whl d body =>
    simp only [cS] at h
    split at h
    · simp only [Bool.and_eq_true] at h
      exact vs_whl hp (se.c c _ _ h.1) (ih.ss c hp _ _ h.2)
    · cases h
  | brk =>
    simp only [cS] at h
    split at h
    · exact vs_brk
    · cases h
  | cnt =>
    simp only [cS] at h
    split at h
    · exact vs_cnt
    · cases h
  | pas =>
    simp only [cS] at h
    split at h
    · exact vs_pas
    · cases h
  | kill ks => simp [cS] at h
  | frz i => simp [cS] at h
theorem snd_ss (ih : SndS Φ n) {X : Cx} {b : Tb} (c : Cxt X Φ b) (hp : PassesOwn (model X.prog X.w) X.A X.env X.xe) : ∀ s x, cSs (n + 1) b s x = true → PSs X x (tS X.K b.io (wpSs Φ s)) := fun s x h => by
  cases s with
  | nil =>
    cases x with
    | nil => exact vss_nil
    | cons _ _ => simp [cSs] at h
  | cons s ss =>
    have one : (∀ x xs, cS n b s x = true → cSs n b ss xs = true → PSs X (x :: xs) (tS X.K b.io (wpSs Φ (.cons s ss)))) := fun x xs h1 h2 => vss_cons (ih.s c hp _ _ h1) (ih.ss c hp _ _ h2)
    cases s with
    | kill ks => exact vss_kill (ih.ss c hp _ _ (by simpa only [cSs] using h))
    | frz i => exact vss_frz (ih.ss c hp _ _ (by simpa only [cSs] using h))
    | _ =>
      cases x with
      | nil => simp [cSs] at h
      | cons x xs =>
        simp only [cSs, Bool.and_eq_true] at h
        exact one x xs h.1 h.2
theorem sndS : ∀ n, SndS Φ n
  | 0 => ⟨fun _ _ _ _ h => by simp [cS] at h, fun _ _ _ _ h => by simp [cSs] at h⟩
  | n + 1 =>
    have ih := sndS n
    ⟨fun c hp => snd_s ih c hp, fun c hp => snd_ss ih c hp⟩
end

/-! ### defs -/
/-- the places of the lent parameters -/
def ioIx (m : List Bool) : List Nat := (List.range m.length).filter fun i => m.getD i false
/-- what is wanted of the in-and-out parameters at the end -/
def ioK (m : List Bool) (Q : List T → Prop) (Γ : Env) : Prop := match m.any id with
  | false => Q []
  | true => ∃ ios, lnt m Γ = ios.map some ∧ m.length ≤ Γ.length ∧ Q ios
/-- the entry of a def -/
def ent (n : Nat) (ts : List T) : Env := ts.map some ++ List.replicate (n - ts.length) none
/-- a def keeps its promise, by its VC -/
structure FnIn (P : Program) (w : World) (K : PySem.W.Frag) (mg : Str → Option Value) (base : Heap) (k : Nat) (x : Str) (m : Sg) (φ : Spec) : Prop where
  ex : ∃ (f : Addr) (fd : FuncData) (ps : List Str), FnOk P w K mg base CX0 k f fd ps (spT K m.1 φ) ∧ mg x = some (.ref f) ∧ PySem.W.keepIn K (.ref f) = true ∧ Binds K fd ps [] ∧ (m.2 = [] ∨ (m.2 = ps ∧ KB0 K fd ps ∧ m.1.length = ps.length))
theorem FnIn.mono {P : Program} {w : World} {K : PySem.W.Frag} {mg : Str → Option Value} {base : Heap} {j k : Nat} {x : Str} {m : Sg} {φ : Spec} (F : FnIn P w K mg base j x m φ) (h : j ≤ k) : FnIn P w K mg base k x m φ := by
  obtain ⟨f, fd, ps, a, b, c, d⟩ := F.ex
  exact ⟨f, fd, ps, a.mono h, b, c, d⟩
/-- all defs below n -/
def AllF (P : Program) (w : World) (K : PySem.W.Frag) (mg : Str → Option Value) (base : Heap) (fs : List (Str × Sg)) (Φ : Nat → Spec) (n : Nat) : Prop := ∀ i x m, i < n → fs[i]? = some (x, m) → FnIn P w K mg base n x m (Φ i)
theorem AllF.zero {P : Program} {w : World} {K : PySem.W.Frag} {mg : Str → Option Value} {base : Heap} {fs : List (Str × Sg)} {Φ : Nat → Spec} : AllF P w K mg base fs Φ 0 := fun i x m h => by omega
theorem AllF.succ {P : Program} {w : World} {K : PySem.W.Frag} {mg : Str → Option Value} {base : Heap} {fs : List (Str × Sg)} {Φ : Nat → Spec} {n : Nat} {x : Str} {m : Sg} (a : AllF P w K mg base fs Φ n) (e : fs[n]? = some (x, m)) (F : FnIn P w K mg base (n + 1) x m (Φ n)) : AllF P w K mg base fs Φ (n + 1) := fun i y m' h h' => by
  by_cases hn : i = n
  · subst hn
    rw [e] at h'
    cases h'
    exact F
  · exact (a i y m' (by omega) h').mono (by omega)
section
variable {P : Program} {w : World} {K : PySem.W.Frag} {mg : Str → Option Value} {base : Heap}
theorem start_get {N : List Str} {vs : List V} {i : Nat} {v : V} (h : vs[i]? = some v) : (start N vs)[i]? = some (some v) := by
  unfold L2.start
  have hi : i < vs.length := (List.getElem?_eq_some_iff.mp h).1
  rw [List.getElem?_append_left (by simpa using hi), List.getElem?_map, h]
  rfl
theorem repsO_get {H : Hp} {Z : Addr → Prop} : ∀ {ts : List T} {Oss : List (List Addr)} {vs : List V} {i : Nat} {t : T}, RepsO K H Z ts Oss vs → ts[i]? = some t → ∃ v, vs[i]? = some v ∧ Rep K H Z t (Oss.getD i []) v
  | [], _, _, i, t, _, e => by simp at e
  | t :: ts, o :: os, v :: vs, 0, t', h, e => by
    simp at e; subst e
    exact ⟨v, rfl, h.1⟩
  | t :: ts, o :: os, v :: vs, i + 1, t', h, e => by
    obtain ⟨w, h1, h2⟩ := repsO_get (i := i) h.2 (by simpa using e)
    exact ⟨w, by simpa using h1, by simpa using h2⟩
  | _ :: _, [], _, _, _, h, _ => by cases h
  | _ :: _, _ :: _, [], _, _, h, _ => by cases h
theorem ent_ok {H : Hp} {Z : Addr → Prop} {ts : List T} {Oss : List (List Addr)} {vs : List V} {N : List Str} (r : RepsO K H Z ts Oss vs) (own : Own H Z Oss.flatten) (zt : Zt H Z) (hl : vs.length ≤ N.length) :
    Ok K H Z (ent N.length ts) (Oss ++ List.replicate (N.length - vs.length) []) (start N vs) := by
  obtain ⟨l1, l2⟩ := r.len
  have fl : (Oss ++ List.replicate (N.length - vs.length) ([] : List Addr)).flatten = Oss.flatten := by simp
  refine ⟨?_, ?_, fun i t h => ?_, by rw [fl]; exact own, zt⟩
  · unfold L2.start ent
    simp only [List.length_append, List.length_map, List.length_replicate]
    omega
  · unfold ent
    simp only [List.length_append, List.length_map, List.length_replicate]
    omega
  · unfold ent at h
    by_cases hi : i < ts.length
    · rw [List.getElem?_append_left (by simpa using hi), List.getElem?_map] at h
      cases e : ts[i]? with
      | none => rw [e] at h; cases h
      | some t' =>
        rw [e] at h
        cases h
        obtain ⟨v, h1, h2⟩ := repsO_get r e
        refine ⟨v, start_get h1, ?_⟩
        rw [List.getD_eq_getElem?_getD, List.getElem?_append_left (by rw [l2, ← l1]; exact hi), ← List.getD_eq_getElem?_getD]
        exact h2
    · rw [List.getElem?_append_right (by simpa using hi)] at h
      rw [List.getElem?_replicate] at h
      split at h <;> cases h
/-- the lent ones at the end -/
theorem lnt_end {H : Hp} {Z : Addr → Prop} : ∀ (m : List Bool) (j : Nat) {vs : List V} {Γ : Env} {Os : List (List Addr)} {ios : List T} {σ : L2.St}, vs.length = m.length → (∀ i t, Γ[i]? = some (some t) → ∃ v, σ[j + i]? = some (some v) ∧ Rep K H Z t (Os.getD i []) v) → Os.length = Γ.length →
    (∀ i v, m.getD i false = true → vs[i]? = some v → σ[j + i]? = some (some v)) → lnt m Γ = ios.map some → m.length ≤ Γ.length → RepsO K H Z ios (lnt m Os) (lnt m vs) ∧ (lnt m Os).flatten.Sublist Os.flatten
  | [], j, vs, Γ, Os, ios, σ, hl, g, ho, hs, e, hle => by
    have : ios = [] := by simpa [lnt] using e
    subst this
    have hv : vs = [] := List.length_eq_zero_iff.mp hl
    subst hv
    exact ⟨by simp [lnt, RepsO], by simp [lnt]⟩
  | b :: m, j, [], Γ, Os, ios, σ, hl, g, ho, hs, e, hle => by simp at hl
  | b :: m, j, v :: vs, [], Os, ios, σ, hl, g, ho, hs, e, hle => by simp at hle
  | b :: m, j, v :: vs, x :: Γ, [], ios, σ, hl, g, ho, hs, e, hle => by simp at ho
  | b :: m, j, v :: vs, x :: Γ, o :: Os, ios, σ, hl, g, ho, hs, e, hle => by
    have g' : ∀ i t, Γ[i]? = some (some t) → ∃ v, σ[j + 1 + i]? = some (some v) ∧ Rep K H Z t (Os.getD i []) v := fun i t q => by
      have := g (i + 1) t (by simpa using q)
      rw [show j + (i + 1) = j + 1 + i by omega] at this
      simpa using this
    have hs' : ∀ i v, m.getD i false = true → vs[i]? = some v → σ[j + 1 + i]? = some (some v) := fun i v' q q' => by
      have := hs (i + 1) v' (by simpa using q) (by simpa using q')
      rw [show j + (i + 1) = j + 1 + i by omega] at this
      exact this
    cases b with
    | false =>
      obtain ⟨h1, h2⟩ := lnt_end m (j + 1) (vs := vs) (Γ := Γ) (Os := Os) (ios := ios) (σ := σ) (by simpa using hl) g' (by simpa using ho) hs' (by simpa [lnt] using e) (by simpa using hle)
      exact ⟨by simpa [lnt] using h1, by simp only [lnt, List.flatten_cons]; exact h2.trans (List.sublist_append_right _ _)⟩
    | true =>
      cases ios with
      | nil => simp [lnt] at e
      | cons t ios =>
        simp only [lnt, List.map_cons, List.cons.injEq] at e
        obtain ⟨rfl, e⟩ := e
        obtain ⟨h1, h2⟩ := lnt_end m (j + 1) (vs := vs) (Γ := Γ) (Os := Os) (ios := ios) (σ := σ) (by simpa using hl) g' (by simpa using ho) hs' e (by simpa using hle)
        obtain ⟨v', e1, e2⟩ := g 0 t rfl
        have e3 := hs 0 v rfl rfl
        rw [e1] at e3
        cases e3
        refine ⟨?_, ?_⟩
        · simp only [lnt, RepsO]
          exact ⟨by simpa using e2, h1⟩
        · simp only [lnt, List.flatten_cons]
          exact h2.append_left o
theorem ioIx_mem {m : List Bool} {i : Nat} (h : m.getD i false = true) : i ∈ ioIx m := by
  unfold ioIx
  rw [List.mem_filter]
  refine ⟨?_, h⟩
  rw [List.mem_range]
  by_cases hi : i < m.length
  · exact hi
  · rw [List.getD_eq_getElem?_getD, List.getElem?_eq_none (by omega)] at h
    cases h
theorem lnt_none {α : Type} : ∀ {m : List Bool} {xs : List α}, m.any id = false → lnt m xs = []
  | [], xs, _ => by cases xs <;> rfl
  | b :: m, [], h => by cases b <;> rfl
  | b :: m, x :: xs, h => by
    simp only [List.any_cons, Bool.or_eq_false_iff] at h
    have : b = false := h.1
    subst this
    simp only [lnt]
    exact lnt_none h.2
theorem def_ok {k : Nat} {x qual : Str} {params : Arguments} {body : List Stmt} {scope : Scope} {f : Addr} {fd : FuncData} {N ps : List Str} {m : List Bool} {fs : List (Str × Sg)} {Φ : Nat → Spec} {φ : Spec} {il : Ss} (n fuel : Nat)
    (F : FunD K x qual params body scope [] [] f fd) (S : FnScope N ps scope) (hm : m.length = ps.length) (all : AllF P w K mg base fs Φ k) (hfs : n ≤ k) (mgN : ∀ x ∈ bltN, mg x = none)
    (ck : cSs fuel ⟨N, scope, scope, fs.take n, ioIx m⟩ il body = true)
    (vc : ∀ ts Q, ts.length = m.length → argsM m ts = true → φ ts Q → wpSs Φ il { nx := fun Γ => ioK m (Q .non) Γ, rt := fun t Γ => ioK m (Q t) Γ } (ent N.length ts)) :
    FnOk P w K mg base CX0 (k + 1) f fd ps (spT K m φ) := by
  refine F.ok S (fun vs H Q E h => by rw [h.1, hm]) fun cdv A outer s H vs Q E hr h => ?_
  obtain ⟨hl, ts, Oss, Z, Qt, r, am, own, zt, hφ, fin⟩ := h
  obtain ⟨l1, l2⟩ := r.len
  have hpl : ps.length ≤ N.length := by have := congrArg List.length S.pre; rw [List.length_take] at this; omega
  have okE := ent_ok (N := N) r own zt (by omega)
  have C : Cxt (cxOf CX0 P w K mg base N qual scope f cdv A outer s H E).nox Φ ⟨N, scope, scope, fs.take n, ioIx m⟩ := by
    refine ⟨rfl, rfl, S.kind, rfl, S.nd, fun x h => ⟨locK_or h, .inl rfl⟩, ?_, mgN, fun i y m' h => ?_⟩
    · have := hr.un
      show (A.deeper (envOfC qual scope s.heap.objs.size f cdv)).units + 80 < cLine
      omega
    · have hi : i < n := by
        by_cases hi : i < n
        · exact hi
        · rw [List.getElem?_take_eq_none (by omega)] at h; cases h
      rw [List.getElem?_take_of_lt hi] at h
      obtain ⟨f', fd', ps', a, b, c, d⟩ := (all i y m' (by omega) h).ex
      exact ⟨k, f', fd', ps', a, hr, b, c, d⟩
  refine ⟨_, PSs.nox ((sndS fuel).ss C PassesOwn.never il body ck), ?_⟩
  refine ⟨_, Z, _, _, okE, vc ts Qt (by rw [l1, hl]) am hφ, ?_⟩
  have flat : (Oss ++ List.replicate (N.length - vs.length) ([] : List Addr)).flatten = Oss.flatten := by simp
  rw [flat]
  have key : ∀ t Γ' σ' v H' Z' Os' os, ioK m (Qt t) Γ' → Ok K H' Z' Γ' Os' σ' → Rep K H' Z' t os v → Own H' Z' (os ++ Os'.flatten) → Ext Oss.flatten H Z H' Z' (os ++ Os'.flatten) → Par (ioIx m) (start N vs) σ' → Q v H' := fun t Γ' σ' v H' Z' Os' os q ok' rv ow ex pr => by
    unfold ioK at q
    cases hb : m.any id with
    | false =>
      rw [hb] at q
      refine fin t [] v H' Z' os [] q rv ?_ (by simpa using ow.left) (by simpa using ex.sub fun a h => List.mem_append_left _ h) ok'.zt
      rw [lnt_none hb]
      simp [RepsO]
    | true =>
      rw [hb] at q
      obtain ⟨ios, e, hle, q⟩ := q
      obtain ⟨h1, h2⟩ := lnt_end (K := K) (H := H') (Z := Z') m 0 (vs := vs) (Γ := Γ') (Os := Os') (ios := ios) (σ := σ') hl (fun i t' g => by
        obtain ⟨v', g1, g2⟩ := ok'.get i t' g
        exact ⟨v', by simpa using g1, g2⟩) ok'.lo (fun i v' g g2 => by
        have := pr i (ioIx_mem g)
        rw [Nat.zero_add, this]
        exact start_get g2) e hle
      refine fin t ios v H' Z' os (lnt m Os') q rv h1 ?_ ?_ ok'.zt
      · exact ow.sublist (h2.append_left os)
      · exact ex.sub fun a h => by
          rcases List.mem_append.mp h with z | z
          · exact List.mem_append_left _ z
          · exact List.mem_append_right _ (h2.subset z)
  refine ⟨fun Γ' σ' H' Z' Os' q ok' ex pr => key .non Γ' σ' .non H' Z' Os' [] q ok' rep_non (by simpa using ok'.own) (by simpa using ex) pr, fun t Γ' σ' v H' Z' Os' os q ok' rv ow ex pr => key t Γ' σ' v H' Z' Os' os q ok' rv ow ex pr, fun Γ' σ' H' Z' Os' q => q.elim, fun Γ' σ' H' Z' Os' q => q.elim⟩
end
end PL

end
section
set_option maxHeartbeats 4000000
/-! PLw: one lemma a construct, for the proof of what a def is asked for. -/
namespace PL
open PySem (Str sizeLine)

/-! ### what stands behind a step -/
def kLen (xs : List T) (K : Prop) : Prop := xs.length ≤ sizeLine ∧ K
def kBl (x : T) (K : Bool → Prop) : Prop := ∃ c, x = .bl c ∧ K c
def kInt (x : T) (K : Int → Prop) : Prop := ∃ c, x = .int c ∧ K c
def kTru (x : T) (K : Bool → Prop) : Prop := ∃ c, tru x = some c ∧ K c
def kLook (p : P) (x : T) (Γ : Env) (K : T → Prop) : Prop := ∃ x', look p x Γ x' ∧ K x'
def kIdx (x y : T) (K : T → Prop) : Prop := ∃ v, idxT x y = some v ∧ isF v = true ∧ K v
def kItems (x : T) (K : List T → Prop) : Prop := ∃ xs, items x = some xs ∧ isFs xs = true ∧ K xs
def kBind (g : G) (t : T) (Γ : Env) (K : Env → Prop) : Prop := ∃ Γ2, bindG g t Γ = some Γ2 ∧ K Γ2
def kIf (c : Bool) (A B : Prop) : Prop := if c = true then A else B
theorem k_len {xs : List T} {K : Prop} (h : xs.length ≤ sizeLine) (k : K) : kLen xs K := ⟨h, k⟩
theorem k_bl {c : Bool} {K : Bool → Prop} (k : K c) : kBl (.bl c) K := ⟨c, rfl, k⟩
theorem k_int {c : Int} {K : Int → Prop} (k : K c) : kInt (.int c) K := ⟨c, rfl, k⟩
theorem k_tru {x : T} {c : Bool} {K : Bool → Prop} (h : tru x = some c) (k : K c) : kTru x K := ⟨c, h, k⟩
theorem k_lookT {e : E} {x : T} {Γ : Env} {K : T → Prop} (k : K x) : kLook (.tmp e) x Γ K := ⟨x, rfl, k⟩
theorem k_lookV {i : Nat} {x t : T} {Γ : Env} {K : T → Prop} (h : Γ[i]? = some (some t)) (k : K t) : kLook (.var i) x Γ K := ⟨t, h, k⟩
theorem k_idx {x y v : T} {K : T → Prop} (h : idxT x y = some v) (f : isF v = true) (k : K v) : kIdx x y K := ⟨v, h, f, k⟩
theorem k_items {x : T} {xs : List T} {K : List T → Prop} (h : items x = some xs) (f : isFs xs = true) (k : K xs) : kItems x K := ⟨xs, h, f, k⟩
theorem k_bind {g : G} {t : T} {Γ Γ2 : Env} {K : Env → Prop} (h : bindG g t Γ = some Γ2) (k : K Γ2) : kBind g t Γ K := ⟨Γ2, h, k⟩
theorem k_if {c : Bool} {A B : Prop} (h1 : c = true → A) (h2 : c = false → B) : kIf c A B := by
  unfold kIf
  cases c with
  | true => exact h1 rfl
  | false => exact h2 rfl
theorem k_ifT {A B : Prop} (k : A) : kIf true A B := k
theorem k_ifF {A B : Prop} (k : B) : kIf false A B := k

section
variable {Φ : Nat → Spec} {Γ : Env} {Q : T → Env → Prop}
/-! ### expressions -/
theorem w_non (k : Q .non Γ) : wpE Φ .non Γ Q := by simp only [wpE]; exact k
theorem w_bl {b : Bool} (k : Q (.bl b) Γ) : wpE Φ (.bl b) Γ Q := by simp only [wpE]; exact k
theorem w_int {i : Int} (k : Q (.int i) Γ) : wpE Φ (.int i) Γ Q := by simp only [wpE]; exact k
theorem w_str {x : Str} (k : Q (.str x) Γ) : wpE Φ (.str x) Γ Q := by simp only [wpE]; exact k
theorem w_cp {i : Nat} {t : T} (h : Γ[i]? = some (some t)) (f : isF t = true) (k : Q t Γ) : wpE Φ (.cp i) Γ Q := by simp only [wpE]; exact ⟨t, h, f, k⟩
theorem w_take {i : Nat} {t : T} (h : Γ[i]? = some (some t)) (k : Q t (Γ.set i none)) : wpE Φ (.take i) Γ Q := by simp only [wpE]; exact ⟨t, h, k⟩
theorem w_fz {e : E} (k : wpE Φ e Γ fun t Γ' => Q (fz t) Γ') : wpE Φ (.fz e) Γ Q := by simp only [wpE]; exact k
theorem w_tup {es : Es} (k : wpEs Φ es Γ fun ts Γ' => kLen ts (Q (.tup ts) Γ')) : wpE Φ (.tup es) Γ Q := by simp only [wpE]; exact k
theorem w_lst {es : Es} (k : wpEs Φ es Γ fun ts Γ' => kLen ts (Q (.lst true ts) Γ')) : wpE Φ (.lst es) Γ Q := by simp only [wpE]; exact k
theorem w_dic0 (k : Q (.dic true [] []) Γ) : wpE Φ .dic0 Γ Q := by simp only [wpE]; exact k
theorem w_op {o : Op} {a b : E} (k : wpE Φ a Γ fun x Γ1 => wpE Φ b Γ1 fun y Γ2 => opP o x y fun z => Q z Γ2) : wpE Φ (.op o a b) Γ Q := by simp only [wpE]; exact k
theorem w_neg {a : E} (k : wpE Φ a Γ fun x Γ1 => kInt x fun i => Q (.int (-i)) Γ1) : wpE Φ (.neg a) Γ Q := by simp only [wpE]; exact k
theorem w_and {a b : E} (k : wpE Φ a Γ fun x Γ1 => kBl x fun c => kIf c (wpE Φ b Γ1 Q) (Q (.bl false) Γ1)) : wpE Φ (.and a b) Γ Q := by simp only [wpE]; exact k
theorem w_or {a b : E} (k : wpE Φ a Γ fun x Γ1 => kBl x fun c => kIf c (Q (.bl true) Γ1) (wpE Φ b Γ1 Q)) : wpE Φ (.or a b) Γ Q := by simp only [wpE]; exact k
theorem w_nott {p : P} (k : wpP Φ p Γ fun x Γ1 => kTru x fun c => Q (.bl (!c)) Γ1) : wpE Φ (.nott p) Γ Q := by simp only [wpE]; exact k
theorem w_cmp {r : Rl} {a b : P} (k : wpP Φ a Γ fun x Γ1 => wpP Φ b Γ1 fun y Γ2 => kLook a x Γ2 fun x' => rlP r x' y fun c => Q (.bl c) Γ2) : wpE Φ (.cmp r a b) Γ Q := by simp only [wpE]; exact k
theorem w_chain {r1 r2 : Rl} {a b c : E} (k : wpE Φ a Γ fun x Γ1 => wpE Φ b Γ1 fun y Γ2 => isF y = true ∧ rlP r1 x y fun c1 => kIf c1 (wpE Φ c Γ2 fun z Γ3 => rlP r2 y z fun c2 => Q (.bl c2) Γ3) (Q (.bl false) Γ2)) : wpE Φ (.chain r1 r2 a b c) Γ Q := by
  simp only [wpE]; exact k
theorem w_ifx {c : C} {a b : E} (k : wpC Φ c Γ fun d Γ1 => kIf d (wpE Φ a Γ1 Q) (wpE Φ b Γ1 Q)) : wpE Φ (.ifx c a b) Γ Q := by simp only [wpE]; exact k
theorem w_idx {p : P} {i : E} (k : wpP Φ p Γ fun x Γ1 => wpE Φ i Γ1 fun y Γ2 => kLook p x Γ2 fun x' => kIdx x' y fun v => Q v Γ2) : wpE Φ (.idx p i) Γ Q := by simp only [wpE]; exact k
theorem w_sl {p : P} {lo hi : Oe} (k : wpP Φ p Γ fun x Γ1 => wpOe Φ lo Γ1 fun l Γ2 => wpOe Φ hi Γ2 fun h Γ3 => kLook p x Γ3 fun x' => slP x' l h fun v => Q v Γ3) : wpE Φ (.sl p lo hi) Γ Q := by simp only [wpE]; exact k
/-- a def with no lent parameters -/
def spF (P : List T → (T → Prop) → Prop) : Spec := fun ts Q => P ts fun v => Q v []
def kArgs (es : Es) (ts : List T) (K : Prop) : Prop := argsF es ts = true ∧ K
theorem k_args {es : Es} {ts : List T} {K : Prop} (h : argsF es ts = true) (k : K) : kArgs es ts K := ⟨h, k⟩
/-- a def whose first parameter is lent: a list that keeps what G says of it -/
def spL (G : List T → Prop) (P : List T → (T → Prop) → Prop) : Spec := fun ts Q => ∃ p rest, ts = .lst true p :: rest ∧ G p ∧ P rest fun v => ∀ p', G p' → Q v [.lst true p']
def kLend (φ : Spec) (i : Nat) (es : Es) (ts : List T) (Γ1 : Env) (Q : T → Env → Prop) : Prop := ∃ t, Γ1[i]? = some (some t) ∧ argsF es ts = true ∧ φ (t :: ts) fun v io => io.length = 1 ∧ Q v (lentBack [i] io (Γ1.set i none))
/-- .. called: the other arguments first, then the list as it is by then -/
theorem w_callL {f i : Nat} {es : Es} {t : T} (h0 : Γ[i]? = some (some t)) (hl : lends es = []) (k : wpEs Φ es Γ fun ts Γ1 => kLend (Φ f) i es ts Γ1 Q) : wpE Φ (.call f (.lend i es)) Γ Q := by
  have e : lends (.lend i es) = [i] := by simp [lends, hl]
  simp only [wpE, wpEs, e]
  exact ⟨⟨t, h0⟩, k⟩
theorem k_lend {φ : Spec} {i : Nat} {es : Es} {ts p : List T} {Γ1 : Env} {G : List T → Prop} {P : List T → (T → Prop) → Prop} (hφ : φ = spL G P) (h : Γ1[i]? = some (some (.lst true p))) (g : G p) (af : argsF es ts = true)
    (q : P ts fun v => ∀ p', G p' → [T.lst true p'].length = 1 ∧ Q v ((Γ1.set i none).set i (some (.lst true p')))) : kLend φ i es ts Γ1 Q := ⟨_, h, af, by rw [hφ]; exact ⟨p, ts, rfl, g, q⟩⟩
theorem w_call {f : Nat} {es : Es} {P : List T → (T → Prop) → Prop} (hf : Φ f = spF P) (hl : lends es = []) (k : wpEs Φ es Γ fun ts Γ1 => kArgs es ts (P ts fun v => Q v Γ1)) : wpE Φ (.call f es) Γ Q := by
  simp only [wpE, hf, hl, spF, List.length_nil, lentBack, true_and]
  exact k
theorem w_bi {b : Bi} {p : P} (k : wpP Φ p Γ fun x Γ1 => biP b x fun v => Q v Γ1) : wpE Φ (.bi b p) Γ Q := by simp only [wpE]; exact k
theorem w_szip {a b : E} (k : wpE Φ a Γ fun x Γ1 => wpE Φ b Γ1 fun y Γ2 => ∃ xs ys, items x = some xs ∧ items y = some ys ∧ isFs xs = true ∧ isFs ys = true ∧ sortable (zipT xs ys) ∧ Q (.lst true ((zipT xs ys).mergeSort (PySem.W.dataLe false data))) Γ2) : wpE Φ (.szip a b) Γ Q := by simp only [wpE]; exact k
theorem w_sset {p : P} (k : wpP Φ p Γ fun x Γ1 => ssetP x fun v => Q v Γ1) : wpE Φ (.sset p) Γ Q := by simp only [wpE]; exact k
theorem w_mml {mx : Bool} {p : P} (k : wpP Φ p Γ fun x Γ1 => mmlP mx x fun v => Q v Γ1) : wpE Φ (.mml mx p) Γ Q := by simp only [wpE]; exact k
theorem w_mm {mx : Bool} {a b : E} (k : wpE Φ a Γ fun x Γ1 => wpE Φ b Γ1 fun y Γ2 => mmP mx x y fun v => Q v Γ2) : wpE Φ (.mm mx a b) Γ Q := by simp only [wpE]; exact k
theorem w_isi {p : P} {ty : Ty} (k : wpP Φ p Γ fun x Γ1 => Q (.bl (isTy ty x)) Γ1) : wpE Φ (.isi p ty) Γ Q := by simp only [wpE]; exact k
/-- a comprehension whose turns change nothing else: f tells what each gives -/
theorem lc_loop {own : List Nat} {step : T → Env → (Option T → Env → Prop) → Prop} {xs : List T} {Γ0 : Env} (f : T → Option T) (K : List T → Env → Prop)
    (hs : ∀ x ∈ xs, ∀ (Kk : Option T → Env → Prop), (∀ Γ', wipeE own Γ' = wipeE own Γ0 → Kk (f x) Γ') → step x (wipeE own Γ0) Kk) : ∀ (Γ : Env) (acc : List T), wipeE own Γ = wipeE own Γ0 → (∀ Γ', wipeE own Γ' = wipeE own Γ0 → K (acc ++ xs.filterMap f) Γ') → lcLoop own step xs Γ acc K := by
  induction xs with
  | nil =>
    intro Γ acc e k
    simp only [lcLoop]
    simpa using k Γ e
  | cons x xs ih =>
    intro Γ acc e k
    simp only [lcLoop]
    rw [e]
    refine hs x List.mem_cons_self _ fun Γ' e' => ?_
    refine ih (fun y hy => hs y (List.mem_cons_of_mem _ hy)) (wipeE own Γ') _ (by rw [wipeE_twice, e']) fun Γ2 e2 => ?_
    have := k Γ2 e2
    cases h : f x <;> simpa [List.filterMap_cons, h] using this
theorem backE_eq {own : List Nat} {Γ0 Γ Γ' : Env} (h : wipeE own Γ = wipeE own Γ') : backE own Γ0 Γ = backE own Γ0 Γ' := by
  have len : Γ.length = Γ'.length := by rw [← wipeE_len own Γ, ← wipeE_len own Γ', h]
  apply List.ext_getElem?
  intro i
  by_cases m : i ∈ own
  · have key : ∀ (own : List Nat), i ∈ own → (backE own Γ0 Γ)[i]? = (backE own Γ0 Γ')[i]? := by
      intro own
      induction own with
      | nil => intro h; cases h
      | cons v vs ih =>
        intro hm
        unfold backE
        by_cases hv : v = i
        · subst hv
          by_cases hl : v < Γ.length
          · rw [List.getElem?_set_self (by rw [backE_len]; exact hl), List.getElem?_set_self (by rw [backE_len, ← len]; exact hl)]
          · rw [List.getElem?_eq_none (by rw [List.length_set, backE_len]; omega), List.getElem?_eq_none (by rw [List.length_set, backE_len, ← len]; omega)]
        · rw [List.getElem?_set_ne hv, List.getElem?_set_ne hv]
          rcases List.mem_cons.mp hm with z | z
          · exact absurd z.symm hv
          · exact ih z
    exact key own m
  · rw [backE_out m, backE_out m, ← wipeE_out m, h, wipeE_out m]
def kCap (it : I) (xs : List T) (K : Prop) : Prop := lcCap it xs ∧ K
theorem k_cap {it : I} {xs : List T} {K : Prop} (h : lcCap it xs) (k : K) : kCap it xs K := ⟨h, k⟩
/-- one turn of a comprehension -/
def kTurn (Φ : Nat → Spec) (g : G) (c : Oc) (e : E) (x : T) (Γ : Env) (K : Option T → Env → Prop) : Prop := kBind g x Γ fun Γ2 => wpOc Φ c Γ2 fun b Γ3 => kIf b (wpE Φ e Γ3 fun y Γ4 => isF y = true ∧ K (some y) Γ4) (K none Γ3)
def kLc (Φ : Nat → Spec) (own : List Nat) (g : G) (c : Oc) (e : E) (xs : List T) (Γ : Env) (Q : T → Env → Prop) : Prop := lcLoop own (kTurn Φ g c e) xs Γ [] fun ys Γ' => Q (.lst true ys) (backE own Γ Γ')
/-- a turn of two fors -/
def kTurn1 (Φ : Nat → Spec) (g1 : G) (c1 : Oc) (e : E) (y : T) (Γ5 : Env) (acc1 : List T) (K1 : List T → Env → Prop) : Prop := kBind g1 y Γ5 fun Γ6 => wpOc Φ c1 Γ6 fun b1 Γ7 => kIf b1 (wpE Φ e Γ7 fun z Γ8 => isF z = true ∧ acc1.length < sizeLine ∧ K1 (acc1 ++ [z]) Γ8) (K1 acc1 Γ7)
def kLcA (Φ : Nat → Spec) (own1 : List Nat) (g1 : G) (c1 : Oc) (e : E) (ys : List T) (Γ4 : Env) (acc : List T) (K : List T → Env → Prop) : Prop := lcA own1 (kTurn1 Φ g1 c1 e) ys Γ4 acc K
def kTurn2 (Φ : Nat → Spec) (g : G) (c : Oc) (own1 : List Nat) (it1 : I) (g1 : G) (c1 : Oc) (e : E) (x : T) (Γ' : Env) (acc : List T) (K : List T → Env → Prop) : Prop :=
  kBind g x Γ' fun Γ2 => wpOc Φ c Γ2 fun b Γ3 => kIf b (wpI Φ it1 Γ3 fun ys Γ4 => kCap it1 ys (kLcA Φ own1 g1 c1 e ys Γ4 acc K)) (K acc Γ3)
def kLc2 (Φ : Nat → Spec) (own : List Nat) (g : G) (c : Oc) (own1 : List Nat) (it1 : I) (g1 : G) (c1 : Oc) (e : E) (xs : List T) (Γ : Env) (Q : T → Env → Prop) : Prop := lcA own (kTurn2 Φ g c own1 it1 g1 c1 e) xs Γ [] fun ys Γ' => Q (.lst true ys) (backE own Γ Γ')
theorem w_lc2 {own own1 : List Nat} {it it1 : I} {g g1 : G} {c c1 : Oc} {e : E} (k : wpI Φ it Γ fun xs Γ1 => kCap it xs (kLc2 Φ own g c own1 it1 g1 c1 e xs Γ1 Q)) : wpE Φ (.lc2 own it g c own1 it1 g1 c1 e) Γ Q := by simp only [wpE]; exact k
theorem lcA_iv {own : List Nat} {step : T → Env → List T → (List T → Env → Prop) → Prop} {xs : List T} {Γ : Env} {acc : List T} {K : List T → Env → Prop} (P : Nat → List T → Prop) (h0 : P 0 acc)
    (hs : ∀ i x acc, xs[i]? = some x → P i acc → ∀ Kk : List T → Env → Prop, (∀ acc' Γ', P (i + 1) acc' → wipeE own Γ' = wipeE own Γ → Kk acc' Γ') → step x (wipeE own Γ) acc Kk) (k : ∀ acc Γ', P xs.length acc → wipeE own Γ' = wipeE own Γ → K acc Γ') : lcA own step xs Γ acc K := by
  suffices h : ∀ (r : List T) (j : Nat) (Γ' : Env) (acc : List T), (∀ m, r[m]? = xs[j + m]?) → j + r.length = xs.length → wipeE own Γ' = wipeE own Γ → P j acc → lcA own step r Γ' acc K from h xs 0 Γ acc (fun m => by rw [Nat.zero_add]) (by omega) rfl h0
  intro r
  induction r with
  | nil =>
    intro j Γ' acc _ e w p
    simp only [lcA]
    have : j = xs.length := by simpa using e
    subst this
    exact k acc Γ' p w
  | cons x r ih =>
    intro j Γ' acc g e w p
    simp only [lcA]
    rw [w]
    refine hs j x acc (by have := g 0; simpa using this.symm) p _ fun acc' Γ2 p' w' => ?_
    refine ih (j + 1) (wipeE own Γ2) acc' (fun m => by have := g (m + 1); rw [show j + 1 + m = j + (m + 1) by omega, ← this]; simp) (by simp at e; omega) ?_ p'
    rw [← w']
    apply List.ext_getElem?
    intro i
    by_cases m : i ∈ own
    · have gg : ∀ Γ : Env, (wipeE own Γ)[i]? = if i < Γ.length then some none else none := fun Γ => by
        by_cases hl : i < Γ.length
        · rw [if_pos hl]
          have hl' : i < (wipeE own Γ).length := by rw [wipeE_len]; exact hl
          rw [List.getElem?_eq_getElem hl']
          cases q : (wipeE own Γ)[i] with
          | none => rfl
          | some t => exact absurd (by rw [List.getElem?_eq_getElem hl', q]) (wipeE_in m t)
        · rw [if_neg hl, List.getElem?_eq_none (by rw [wipeE_len]; omega)]
      rw [gg, gg, wipeE_len]
    · rw [wipeE_out m]
theorem w_lc {own : List Nat} {it : I} {g : G} {c : Oc} {e : E} (k : wpI Φ it Γ fun xs Γ1 => kCap it xs (kLc Φ own g c e xs Γ1 Q)) : wpE Φ (.lc own it g c e) Γ Q := by simp only [wpE]; exact k
theorem k_lc {own : List Nat} {g : G} {c : Oc} {e : E} {xs : List T} (f : T → Option T) (hs : ∀ x ∈ xs, ∀ (Kk : Option T → Env → Prop), (∀ Γ', wipeE own Γ' = wipeE own Γ → Kk (f x) Γ') → kTurn Φ g c e x (wipeE own Γ) Kk) (k : Q (.lst true (xs.filterMap f)) (backE own Γ Γ)) : kLc Φ own g c e xs Γ Q := by
  refine lc_loop f _ hs Γ [] rfl fun Γ' e' => ?_
  rw [backE_eq e']
  exact k
/-- .. each gives one -/
theorem k_lcM {own : List Nat} {g : G} {c : Oc} {e : E} {xs : List T} (f : T → T) (hs : ∀ x ∈ xs, ∀ (Kk : Option T → Env → Prop), (∀ Γ', wipeE own Γ' = wipeE own Γ → Kk (some (f x)) Γ') → kTurn Φ g c e x (wipeE own Γ) Kk) (k : Q (.lst true (xs.map f)) (backE own Γ Γ)) : kLc Φ own g c e xs Γ Q := by
  refine k_lc (fun x => some (f x)) hs ?_
  rw [show (fun x => some (f x)) = some ∘ f from rfl, List.filterMap_eq_map]
  exact k
theorem w_pop {i : Nat} {xs : List T} {y : T} (h : Γ[i]? = some (some (.lst true xs))) (l : xs.getLast? = some y) (f : isFs xs = true) (k : Q y (Γ.set i (some (.lst true xs.dropLast)))) : wpE Φ (.pop i) Γ Q := by simp only [wpE]; exact ⟨xs, y, h, l, f, k⟩
theorem w_index {p : P} {k : E} (h : wpP Φ p Γ fun x Γ1 => isLst x = true ∧ wpE Φ k Γ1 fun y Γ2 => kLook p x Γ2 fun x' => ∃ o xs j, x' = .lst o xs ∧ shp (.lst o xs) = true ∧ shp y = true ∧ keyIx y xs = some j ∧ Q (.int (j : Nat)) Γ2) : wpE Φ (.index p k) Γ Q := by simp only [wpE]; exact h
theorem w_lrg {a b : E} (k : wpE Φ a Γ fun x Γ1 => wpE Φ b Γ1 fun y Γ2 => ∃ m n, x = .int m ∧ y = .int n ∧ L2.RgOk m n ∧ Q (.lst true ((List.range (n - m).toNat).map fun (k : Nat) => .int (m + k))) Γ2) : wpE Φ (.lrg a b) Γ Q := by simp only [wpE]; exact k
/-! ### lists of arguments, operands -/
variable {Qs : List T → Env → Prop} {Qb : Bool → Env → Prop} {Qo : Option Int → Env → Prop} {R : List T → Env → Prop}
theorem w_nil (k : Qs [] Γ) : wpEs Φ .nil Γ Qs := by simp only [wpEs]; exact k
theorem w_cons {e : E} {es : Es} (k : wpE Φ e Γ fun x Γ1 => wpEs Φ es Γ1 fun xs Γ2 => Qs (x :: xs) Γ2) : wpEs Φ (.cons e es) Γ Qs := by simp only [wpEs]; exact k
theorem w_var {i : Nat} {t : T} (h : Γ[i]? = some (some t)) (k : Q t Γ) : wpP Φ (.var i) Γ Q := by simp only [wpP]; exact ⟨t, h, k⟩
theorem w_tmp {e : E} (k : wpE Φ e Γ Q) : wpP Φ (.tmp e) Γ Q := by simp only [wpP]; exact k
theorem w_no (k : Qo none Γ) : wpOe Φ .no Γ Qo := by simp only [wpOe]; exact k
theorem w_so {e : E} (k : wpE Φ e Γ fun x Γ1 => kInt x fun i => Qo (some i) Γ1) : wpOe Φ (.so e) Γ Qo := by simp only [wpOe]; exact k
/-! ### tests -/
theorem c_val {p : P} (k : wpP Φ p Γ fun x Γ1 => kTru x fun c => Qb c Γ1) : wpC Φ (.val p) Γ Qb := by simp only [wpC]; exact k
theorem c_and {a b : C} (k : wpC Φ a Γ fun c Γ1 => kIf c (wpC Φ b Γ1 Qb) (Qb false Γ1)) : wpC Φ (.and a b) Γ Qb := by simp only [wpC]; exact k
theorem c_or {a b : C} (k : wpC Φ a Γ fun c Γ1 => kIf c (Qb true Γ1) (wpC Φ b Γ1 Qb)) : wpC Φ (.or a b) Γ Qb := by simp only [wpC]; exact k
theorem c_not {a : C} (k : wpC Φ a Γ fun c Γ1 => Qb (!c) Γ1) : wpC Φ (.not a) Γ Qb := by simp only [wpC]; exact k
theorem c_cmp {r : Rl} {a b : P} (k : wpP Φ a Γ fun x Γ1 => wpP Φ b Γ1 fun y Γ2 => kLook a x Γ2 fun x' => rlP r x' y fun c => Qb c Γ2) : wpC Φ (.cmp r a b) Γ Qb := by simp only [wpC]; exact k
theorem c_chain {r1 r2 : Rl} {a b c : E} (k : wpE Φ a Γ fun x Γ1 => wpE Φ b Γ1 fun y Γ2 => isF y = true ∧ rlP r1 x y fun c1 => kIf c1 (wpE Φ c Γ2 fun z Γ3 => rlP r2 y z fun c2 => Qb c2 Γ3) (Qb false Γ2)) : wpC Φ (.chain r1 r2 a b c) Γ Qb := by
  simp only [wpC]; exact k
theorem oc_no (k : Qb true Γ) : wpOc Φ .no Γ Qb := by simp only [wpOc]; exact k
theorem oc_so {c : C} (k : wpC Φ c Γ Qb) : wpOc Φ (.so c) Γ Qb := by simp only [wpOc]; exact k
/-! ### what is gone through -/
def kHold (p : P) (x : T) (Γ : Env) (R : List T → Env → Prop) : Prop := kItems x fun xs => R xs (holdE p x Γ)
theorem i_zips {p : P} (k : wpP Φ p Γ fun x Γ1 => kHold p x Γ1 fun xs Γ2 => zipsP xs fun ys => R ys Γ2) : wpI Φ (.zips p) Γ R := by simp only [wpI]; exact k
theorem i_seq {p : P} (k : wpP Φ p Γ fun x Γ1 => kHold p x Γ1 R) : wpI Φ (.seq p) Γ R := by simp only [wpI]; exact k
theorem i_rng1 {a : E} (k : wpE Φ a Γ fun x Γ1 => kInt x fun n => -(2 ^ 62) ≤ n ∧ n < 2 ^ 62 ∧ R ((List.range n.toNat).map fun (k : Nat) => .int k) Γ1) : wpI Φ (.rng1 a) Γ R := by simp only [wpI]; exact k
theorem i_rng2 {a b : E} (k : wpE Φ a Γ fun x Γ1 => wpE Φ b Γ1 fun y Γ2 => ∃ m n, x = .int m ∧ y = .int n ∧ (-(2 ^ 62) ≤ m ∧ m < 2 ^ 62 ∧ -(2 ^ 62) ≤ n ∧ n < 2 ^ 62) ∧ R ((List.range (n - m).toNat).map fun (k : Nat) => .int (m + k)) Γ2) : wpI Φ (.rng2 a b) Γ R := by
  simp only [wpI]; exact k
theorem i_enum {p : P} (k : wpP Φ p Γ fun x Γ1 => kHold p x Γ1 fun xs Γ2 => R (xs.zipIdx.map fun q => .tup [.int (q.2 : Nat), q.1]) Γ2) : wpI Φ (.enum p) Γ R := by simp only [wpI]; exact k
theorem i_zip2 {p q : P} (k : wpP Φ p Γ fun x Γ1 => kHold p x Γ1 fun xs Γ2 => wpP Φ q Γ2 fun y Γ3 => kHold q y Γ3 fun ys Γ4 => R ((xs.zip ys).map fun z => .tup [z.1, z.2]) Γ4) : wpI Φ (.zip2 p q) Γ R := by simp only [wpI]; exact k
theorem i_zip3 {p q r : P} (k : wpP Φ p Γ fun x Γ1 => kHold p x Γ1 fun xs Γ2 => wpP Φ q Γ2 fun y Γ3 => kHold q y Γ3 fun ys Γ4 => wpP Φ r Γ4 fun z Γ5 => kHold r z Γ5 fun zs Γ6 => R ((xs.zip (ys.zip zs)).map fun z => .tup [z.1, z.2.1, z.2.2]) Γ6) : wpI Φ (.zip3 p q r) Γ R := by
  simp only [wpI]; exact k
end
/-! ### statements -/
section
variable {Φ : Nat → Spec} {Γ : Env} {nx : Env → Prop} {rt : T → Env → Prop} {bk ct : Env → Prop}
theorem s_nil (k : nx Γ) : wpSs Φ .nil ⟨nx, rt, bk, ct⟩ Γ := by simp only [wpSs]; exact k
theorem s_cons {s : S} {ss : Ss} (k : wpS Φ s ⟨wpSs Φ ss ⟨nx, rt, bk, ct⟩, rt, bk, ct⟩ Γ) : wpSs Φ (.cons s ss) ⟨nx, rt, bk, ct⟩ Γ := by simp only [wpSs]; exact k
theorem s_asg {g : G} {e : E} (k : wpE Φ e Γ fun t Γ1 => kBind g t Γ1 nx) : wpS Φ (.asg g e) ⟨nx, rt, bk, ct⟩ Γ := by simp only [wpS]; exact k
def kApp (i : Nat) (t : T) (Γ : Env) (nx : Env → Prop) : Prop := ∃ xs, Γ[i]? = some (some (.lst true xs)) ∧ xs.length < sizeLine ∧ nx (Γ.set i (some (.lst true (xs ++ [t]))))
theorem k_app {i : Nat} {t : T} {xs : List T} {nx : Env → Prop} (h : Γ[i]? = some (some (.lst true xs))) (l : xs.length < sizeLine) (k : nx (Γ.set i (some (.lst true (xs ++ [t]))))) : kApp i t Γ nx := ⟨xs, h, l, k⟩
theorem s_app {i : Nat} {e : E} {o : Bool} {us : List T} (h : Γ[i]? = some (some (.lst o us))) (k : wpE Φ e Γ fun t Γ1 => kApp i t Γ1 nx) : wpS Φ (.app i e) ⟨nx, rt, bk, ct⟩ Γ := by
  simp only [wpS]; exact ⟨⟨o, us, h⟩, k⟩
def kExt (i : Nat) (t : T) (Γ : Env) (nx : Env → Prop) : Prop := ∃ xs ys, Γ[i]? = some (some (.lst true xs)) ∧ items t = some ys ∧ isFs ys = true ∧ xs.length + ys.length ≤ sizeLine ∧ nx (Γ.set i (some (.lst true (xs ++ ys))))
theorem k_ext {i : Nat} {t : T} {xs ys : List T} {nx : Env → Prop} (h : Γ[i]? = some (some (.lst true xs))) (e : items t = some ys) (f : isFs ys = true) (l : xs.length + ys.length ≤ sizeLine) (k : nx (Γ.set i (some (.lst true (xs ++ ys))))) : kExt i t Γ nx := ⟨xs, ys, h, e, f, l, k⟩
theorem s_ext {i : Nat} {p : P} {o : Bool} {us : List T} (h : Γ[i]? = some (some (.lst o us))) (k : wpP Φ p Γ fun t Γ1 => kExt i t Γ1 nx) : wpS Φ (.ext i p) ⟨nx, rt, bk, ct⟩ Γ := by
  simp only [wpS]; exact ⟨⟨o, us, h⟩, k⟩
theorem s_ex {e : E} (k : wpE Φ e Γ fun _ Γ1 => nx Γ1) : wpS Φ (.ex e) ⟨nx, rt, bk, ct⟩ Γ := by simp only [wpS]; exact k
theorem s_ret {e : E} (k : wpE Φ e Γ rt) : wpS Φ (.ret e) ⟨nx, rt, bk, ct⟩ Γ := by simp only [wpS]; exact k
theorem s_retN (k : rt .non Γ) : wpS Φ .retN ⟨nx, rt, bk, ct⟩ Γ := by simp only [wpS]; exact k
theorem s_iff {c : C} {a b : Ss} (k : wpC Φ c Γ fun d Γ1 => kIf d (wpSs Φ a ⟨nx, rt, bk, ct⟩ Γ1) (wpSs Φ b ⟨nx, rt, bk, ct⟩ Γ1)) : wpS Φ (.iff c a b) ⟨nx, rt, bk, ct⟩ Γ := by simp only [wpS]; exact k
theorem s_brk (k : bk Γ) : wpS Φ .brk ⟨nx, rt, bk, ct⟩ Γ := by simp only [wpS]; exact k
theorem s_cnt (k : ct Γ) : wpS Φ .cnt ⟨nx, rt, bk, ct⟩ Γ := by simp only [wpS]; exact k
theorem s_pas (k : nx Γ) : wpS Φ .pas ⟨nx, rt, bk, ct⟩ Γ := by simp only [wpS]; exact k
theorem s_kill {ks : List Nat} (k : nx (wipeE ks Γ)) : wpS Φ (.kill ks) ⟨nx, rt, bk, ct⟩ Γ := by simp only [wpS]; exact k
theorem s_frz {i : Nat} {t : T} (h : Γ[i]? = some (some t)) (k : nx (Γ.set i (some (fz t)))) : wpS Φ (.frz i) ⟨nx, rt, bk, ct⟩ Γ := by simp only [wpS]; exact ⟨t, h, k⟩
theorem s_aug {i : Nat} {o : Op} {e : E} {x : T} (h : Γ[i]? = some (some x)) (f : isF x = true) (k : wpE Φ e Γ fun y Γ1 => augP o x y fun z => nx (Γ1.set i (some z))) : wpS Φ (.aug i o e) ⟨nx, rt, bk, ct⟩ Γ := by simp only [wpS]; exact ⟨x, h, f, k⟩
/-- an item stored -/
def kSet (i : Nat) (y t : T) (Γ : Env) (nx : Env → Prop) : Prop := isF t = true ∧
  ((∃ xs j q, Γ[i]? = some (some (.lst true xs)) ∧ y = .int j ∧ L2.ixN xs.length j = some q ∧ nx (Γ.set i (some (.lst true (xs.set q t))))) ∨
   (∃ ks vs, Γ[i]? = some (some (.dic true ks vs)) ∧ keyFit y ks = true ∧ isFs vs = true ∧ ks.length < sizeLine ∧ nx (Γ.set i (some (.dic true (putKs y ks) (putVs y t ks vs))))))
theorem k_setL {i q : Nat} {j : Int} {t : T} {xs : List T} {nx : Env → Prop} (f : isF t = true) (h : Γ[i]? = some (some (.lst true xs))) (hq : L2.ixN xs.length j = some q) (k : nx (Γ.set i (some (.lst true (xs.set q t))))) : kSet i (.int j) t Γ nx := ⟨f, .inl ⟨xs, j, q, h, rfl, hq, k⟩⟩
theorem k_setD {i : Nat} {y t : T} {ks vs : List T} {nx : Env → Prop} (f : isF t = true) (h : Γ[i]? = some (some (.dic true ks vs))) (hk : keyFit y ks = true) (fv : isFs vs = true) (hl : ks.length < sizeLine) (k : nx (Γ.set i (some (.dic true (putKs y ks) (putVs y t ks vs))))) : kSet i y t Γ nx :=
  ⟨f, .inr ⟨ks, vs, h, hk, fv, hl, k⟩⟩
theorem s_setIx {i : Nat} {k e : E} (h : wpE Φ e Γ fun t Γ1 => (∃ u, Γ1[i]? = some (some u)) ∧ wpE Φ k Γ1 fun y Γ2 => kSet i y t Γ2 nx) : wpS Φ (.setIx i k e) ⟨nx, rt, bk, ct⟩ Γ := by
  simp only [wpS]; exact h
/-- a for by its invariant -/
theorem for_inv {step : T → (Env → Prop) → Env → Prop} {nx : Env → Prop} {xs : List T} (Iv : Nat → Env → Prop) (hs : ∀ i x Γ, xs[i]? = some x → Iv i Γ → ∀ again : Env → Prop, (∀ Γ', Iv (i + 1) Γ' → again Γ') → step x again Γ) (hn : ∀ Γ, Iv xs.length Γ → nx Γ) : ∀ Γ, Iv 0 Γ → forLoop step nx xs Γ := by
  suffices h : ∀ (r : List T) (k : Nat) (Γ : Env), (∀ j, r[j]? = xs[k + j]?) → k + r.length = xs.length → Iv k Γ → forLoop step nx r Γ from fun Γ i => h xs 0 Γ (fun j => by rw [Nat.zero_add]) (by omega) i
  intro r
  induction r with
  | nil =>
    intro k Γ _ e i
    simp only [forLoop]
    have : k = xs.length := by simpa using e
    subst this
    exact hn Γ i
  | cons x r ih =>
    intro k Γ g e i
    simp only [forLoop]
    refine hs k x Γ (by have := g 0; simpa using this.symm) i _ fun Γ' i' => ?_
    exact ih (k + 1) Γ' (fun j => by have := g (j + 1); rw [show k + 1 + j = k + (j + 1) by omega, ← this]; simp) (by simp at e; omega) i'
def kFor (Φ : Nat → Spec) (g : G) (body : Ss) (D : Ends) (xs : List T) (Γ : Env) : Prop := forLoop (fun x again Γ' => kBind g x Γ' fun Γ2 => wpSs Φ body ⟨again, D.rt, D.nx, again⟩ Γ2) D.nx xs Γ
theorem s_forr {g : G} {it : I} {body : Ss} (k : wpI Φ it Γ fun xs Γ1 => kFor Φ g body ⟨nx, rt, bk, ct⟩ xs Γ1) : wpS Φ (.forr g it body) ⟨nx, rt, bk, ct⟩ Γ := by simp only [wpS]; exact k
theorem k_for {g : G} {body : Ss} {xs : List T} (Iv : Nat → Env → Prop) (h0 : Iv 0 Γ) (hs : ∀ i x Γ, xs[i]? = some x → Iv i Γ → ∀ again : Env → Prop, (∀ Γ', Iv (i + 1) Γ' → again Γ') → kBind g x Γ fun Γ2 => wpSs Φ body ⟨again, rt, nx, again⟩ Γ2) (hn : ∀ Γ, Iv xs.length Γ → nx Γ) : kFor Φ g body ⟨nx, rt, bk, ct⟩ xs Γ :=
  for_inv Iv hs hn Γ h0
theorem s_forB {g : G} {i : Nat} {body : Ss} {ys : List T} (h : Γ[i]? = some (some (.lst true ys))) (f : isFs ys = true)
    (k : kFor Φ g body ⟨fun Γ2 => nx (Γ2.set i (some (.lst true ys))), rt, bk, ct⟩ ys (Γ.set i none)) : wpS Φ (.forB g i body) ⟨nx, rt, bk, ct⟩ Γ := by simp only [wpS]; exact ⟨ys, h, f, k⟩
/-- a while by its invariant and a measure -/
theorem whl_inv {step : (Env → Prop) → Env → Prop} (Iv : Nat → Env → Prop) (hs : ∀ m Γ, Iv m Γ → ∀ again : Env → Prop, (∀ m' Γ', m' < m → Iv m' Γ' → again Γ') → step again Γ) {m : Nat} {Γ : Env} (h : Iv m Γ) : ∃ n, whlLoop step n Γ := by
  suffices g : ∀ n m Γ, m < n → Iv m Γ → whlLoop step n Γ from ⟨m + 1, g (m + 1) m Γ (Nat.lt_succ_self m) h⟩
  intro n
  induction n with
  | zero => intro m Γ h; omega
  | succ n ih =>
    intro m Γ hm i
    simp only [whlLoop]
    exact hs m Γ i _ fun m' Γ' hm' i' => ih m' Γ' (by omega) i'
theorem s_whl {c : C} {body : Ss} (Iv : Nat → Env → Prop) {m : Nat} (h0 : Iv m Γ) (hs : ∀ m Γ, Iv m Γ → ∀ again : Env → Prop, (∀ m' Γ', m' < m → Iv m' Γ' → again Γ') →
    wpC Φ c Γ fun d Γ1 => kIf d (wpSs Φ body ⟨again, rt, nx, again⟩ Γ1) (nx Γ1)) : wpS Φ (.whl c body) ⟨nx, rt, bk, ct⟩ Γ := by
  simp only [wpS]
  exact whl_inv Iv hs h0
end
end PL

end
section
set_option maxHeartbeats 4000000
/-! PLx: operations at values of a known kind; the step. -/
namespace PL
open PySem (Str sizeLine)

section
variable {Q : T → Prop} {K : Bool → Prop} {i j : Int} {x y : Str} {a b t : T} {xs ys : List T} {o p : Bool}
theorem o_addI (k : Q (.int (i + j))) : opP .add (.int i) (.int j) Q := k
theorem o_addS (h : x.length + y.length ≤ sizeLine) (k : Q (.str (x ++ y))) : opP .add (.str x) (.str y) Q := ⟨h, k⟩
theorem o_addT (f : isFs xs = true) (g : isFs ys = true) (h : xs.length + ys.length ≤ sizeLine) (k : Q (.tup (xs ++ ys))) : opP .add (.tup xs) (.tup ys) Q := ⟨f, g, h, k⟩
theorem o_addL (f : isFs xs = true) (g : isFs ys = true) (h : xs.length + ys.length ≤ sizeLine) (k : Q (.lst true (xs ++ ys))) : opP .add (.lst o xs) (.lst p ys) Q := ⟨f, g, h, k⟩
theorem o_sub (k : Q (.int (i - j))) : opP .sub (.int i) (.int j) Q := k
theorem o_mul (h : L2.CMul i j ∨ L2.CMulW i j) (k : Q (.int (i * j))) : opP .mul (.int i) (.int j) Q := ⟨h, k⟩
theorem o_fdiv (h : L2.CDiv i j) (k : Q (.int (i / j))) : opP .fdiv (.int i) (.int j) Q := ⟨h, k⟩
theorem o_mod (h : 0 < j) (k : Q (.int (i % j))) : opP .mod (.int i) (.int j) Q := ⟨h, k⟩
theorem o_pow (h : L2.CPow i j) (k : Q (.int (i ^ j.toNat))) : opP .pow (.int i) (.int j) Q := ⟨h, k⟩
theorem r_ltI (k : K (decide (i < j))) : rlP .lt (.int i) (.int j) K := k
theorem r_leI (k : K (decide (i ≤ j))) : rlP .le (.int i) (.int j) K := k
theorem r_gtI (k : K (decide (j < i))) : rlP .gt (.int i) (.int j) K := k
theorem r_geI (k : K (decide (j ≤ i))) : rlP .ge (.int i) (.int j) K := k
theorem eqT_int : eqT (.int i) (.int j) = decide (i = j) := eqT_k1 rfl rfl |>.trans (by simp)
theorem eqT_str : eqT (.str x) (.str y) = decide (x = y) := eqT_k1 rfl rfl |>.trans (by simp)
theorem r_eqI (k : K (decide (i = j))) : rlP .eq (.int i) (.int j) K := ⟨rfl, rfl, by rw [eqT_int]; exact k⟩
theorem r_neI (k : K (!decide (i = j))) : rlP .ne (.int i) (.int j) K := ⟨rfl, rfl, by rw [eqT_int]; exact k⟩
theorem r_eqS (f : shp (.str x) = true) (g : shp (.str y) = true) (k : K (decide (x = y))) : rlP .eq (.str x) (.str y) K := ⟨f, g, by rw [eqT_str]; exact k⟩
theorem r_neS (f : shp (.str x) = true) (g : shp (.str y) = true) (k : K (!decide (x = y))) : rlP .ne (.str x) (.str y) K := ⟨f, g, by rw [eqT_str]; exact k⟩
theorem r_eq (f : shp a = true) (g : shp b = true) (k : K (eqT a b)) : rlP .eq a b K := ⟨f, g, k⟩
theorem r_ne (f : shp a = true) (g : shp b = true) (k : K (!eqT a b)) : rlP .ne a b K := ⟨f, g, k⟩
theorem r_isN (k : K (isNon a)) : rlP .is a .non K := by cases a <;> exact k
theorem r_isnN (k : K (!isNon a)) : rlP .isn a .non K := by cases a <;> exact k
theorem r_isB {c d : Bool} (k : K (c == d)) : rlP .is (.bl c) (.bl d) K := k
theorem r_isnB {c d : Bool} (k : K (!(c == d))) : rlP .isn (.bl c) (.bl d) K := k
theorem r_inT (f : shp a = true) (g : shp (.tup xs) = true) (k : K (xs.any fun x => eqT x a)) : rlP .inn a (.tup xs) K := ⟨f, g, k⟩
theorem r_ninT (f : shp a = true) (g : shp (.tup xs) = true) (k : K (!xs.any fun x => eqT x a)) : rlP .nin a (.tup xs) K := ⟨f, g, k⟩
theorem r_inL (f : shp a = true) (g : shp (.lst false xs) = true) (k : K (xs.any fun x => eqT x a)) : rlP .inn a (.lst o xs) K := ⟨f, g, k⟩
theorem r_ninL (f : shp a = true) (g : shp (.lst false xs) = true) (k : K (!xs.any fun x => eqT x a)) : rlP .nin a (.lst o xs) K := ⟨f, g, k⟩
theorem r_inD (f : keyFit a xs = true) (k : K (keyIx a xs).isSome) : rlP .inn a (.dic o xs ys) K := ⟨f, k⟩
theorem r_ninD (f : keyFit a xs = true) (k : K (!(keyIx a xs).isSome)) : rlP .nin a (.dic o xs ys) K := ⟨f, k⟩
theorem b_lenT (k : Q (.int xs.length)) : biP .len (.tup xs) Q := k
theorem b_lenL (k : Q (.int xs.length)) : biP .len (.lst o xs) Q := k
theorem b_listT (f : isFs xs = true) (k : Q (.lst true xs)) : biP .list (.tup xs) Q := ⟨f, k⟩
theorem b_listL (f : isFs xs = true) (k : Q (.lst true xs)) : biP .list (.lst o xs) Q := ⟨f, k⟩
theorem b_tupT (f : isFs xs = true) (k : Q (.tup xs)) : biP .tuple (.tup xs) Q := ⟨f, k⟩
theorem b_tupL (f : isFs xs = true) (k : Q (.tup xs)) : biP .tuple (.lst o xs) Q := ⟨f, k⟩
theorem b_intI (k : Q (.int i)) : biP .int (.int i) Q := k
theorem b_intB {c : Bool} (k : Q (.int (if c then 1 else 0))) : biP .int (.bl c) Q := k
theorem b_abs (k : Q (.int (if i < 0 then -i else i))) : biP .abs (.int i) Q := k
theorem b_str (h : i.natAbs.log2 < 1920) (k : Q (.str (toString i))) : biP .str (.int i) Q := ⟨h, k⟩
theorem b_all {bs : List Bool} (h : blsT xs = some bs) (k : Q (.bl (bs.all id))) : biP .all (.lst o xs) Q := ⟨bs, h, k⟩
theorem b_any {bs : List Bool} (h : blsT xs = some bs) (k : Q (.bl (bs.any id))) : biP .any (.lst o xs) Q := ⟨bs, h, k⟩
theorem b_sum {ns : List Int} (h : intsT xs = some ns) (k : Q (.int ns.sum)) : biP .sum (.lst o xs) Q := ⟨ns, h, k⟩
theorem b_sumT {ns : List Int} (h : intsT xs = some ns) (k : Q (.int ns.sum)) : biP .sum (.tup xs) Q := ⟨ns, h, k⟩
theorem b_sortL (f : isFs xs = true) (h : sortable xs) (k : Q (.lst true (xs.mergeSort (PySem.W.dataLe false data)))) : biP .sorted (.lst o xs) Q := ⟨f, h, k⟩
theorem b_sortT (f : isFs xs = true) (h : sortable xs) (k : Q (.lst true (xs.mergeSort (PySem.W.dataLe false data)))) : biP .sorted (.tup xs) Q := ⟨f, h, k⟩
theorem m_I {mx : Bool} (k : Q (.int (if mx then (if j > i then j else i) else (if j < i then j else i)))) : mmP mx (.int i) (.int j) Q := .inl ⟨i, j, rfl, rfl, k⟩
theorem m_D {mx : Bool} (h : ordable a b = true) (sa : selfA a = true) (sb : selfA b = true) (fa : isF a = true) (fb : isF b = true) (k : Q (mmD mx a b)) : mmP mx a b Q := .inr ⟨h, sa, sb, fa, fb, k⟩
theorem m_set (f : isFs xs = true) (l : xs.length < 64) (h : ∀ t ∈ xs, tOk t = true) (hs : sortable xs) (k : ∀ zs : List T, zs.Nodup → (∀ z, z ∈ zs ↔ z ∈ xs) → Q (.lst true (zs.mergeSort (PySem.W.dataLe false data)))) : ssetP (.lst o xs) Q := ⟨o, xs, rfl, f, l, h, hs, k⟩
theorem m_mml {mx : Bool} {n : Int} {ns : List Int} (h : intsT xs = some (n :: ns)) (k : Q (.int (mmI mx n ns))) : mmlP mx (.lst o xs) Q := ⟨o, xs, n, ns, rfl, h, k⟩
theorem l_tup {lo hi : Option Int} (f : isFs xs = true) (k : Q (.tup (slP.cutV' xs lo hi))) : slP (.tup xs) lo hi Q := ⟨f, k⟩
theorem l_lst {lo hi : Option Int} (f : isFs xs = true) (k : Q (.lst true (slP.cutV' xs lo hi))) : slP (.lst o xs) lo hi Q := ⟨f, k⟩
theorem l_str {lo hi : Option Int} (h : x.length ≤ sizeLine) (k : Q (.str (L2.cutS x lo hi))) : slP (.str x) lo hi Q := ⟨h, k⟩
theorem l_scr {lo hi : Option Int} {ns : List Int} (k : Q (.lst true (slP.cutV' (ns.map T.int) lo hi))) : slP (.scr ns) lo hi Q := k
theorem a_addI {R : T → Prop} (k : R (.int (i + j))) : augP .add (.int i) (.int j) R := k
theorem a_subI {R : T → Prop} (k : R (.int (i - j))) : augP .sub (.int i) (.int j) R := k
theorem ch_and {A : Prop} (h : isF a = true) (k : A) : isF a = true ∧ A := ⟨h, k⟩
end
theorem k_ifD {p : Prop} [Decidable p] {A B : Prop} (h1 : p → A) (h2 : ¬ p → B) : kIf (decide p) A B := k_if (fun h => h1 (of_decide_eq_true h)) fun h => h2 (of_decide_eq_false h)
theorem k_ifN {p : Prop} [Decidable p] {A B : Prop} (h1 : ¬ p → A) (h2 : p → B) : kIf (!decide p) A B := k_if (fun h => h1 (by simpa using h)) fun h => h2 (by simpa using h)
theorem sfz_F {x : T} (h : isF x = true) : sfz x = x := by
  cases x with
  | lst o xs =>
    cases o with
    | true => simp [isF] at h
    | false => rfl
  | dic o ks vs =>
    cases o with
    | true => simp [isF] at h
    | false => rfl
  | _ => rfl
theorem k_holdT {e : E} {x : T} {xs : List T} {Γ : Env} {R : List T → Env → Prop} (h : items x = some xs) (f : isFs xs = true) (k : R xs Γ) : kHold (.tmp e) x Γ R := ⟨xs, h, f, k⟩
theorem k_holdV {i : Nat} {x : T} {xs : List T} {Γ : Env} {R : List T → Env → Prop} (h : items x = some xs) (f : isFs xs = true) (g : isF x = true) (k : R xs (Γ.set i (some x))) : kHold (.var i) x Γ R := ⟨xs, h, f, by
  show R xs (Γ.set i (some (sfz x)))
  rw [sfz_F g]
  exact k⟩
theorem k_holdO {i : Nat} {xs : List T} {Γ : Env} {R : List T → Env → Prop} (f : isFs xs = true) (k : R xs (Γ.set i (some (.lst false xs)))) : kHold (.var i) (.lst true xs) Γ R := ⟨xs, rfl, f, k⟩
theorem blsT_map {α : Type} (g : α → Bool) : ∀ xs : List α, blsT (xs.map fun x => .bl (g x)) = some (xs.map g)
  | [] => rfl
  | x :: xs => by simp [blsT, blsT_map g xs]
theorem intsT_map {α : Type} (g : α → Int) : ∀ xs : List α, intsT (xs.map fun x => .int (g x)) = some (xs.map g)
  | [] => rfl
  | x :: xs => by simp [intsT, intsT_map g xs]
theorem b_lenI {x : T} {xs : List T} {Q : T → Prop} (h : items x = some xs) (k : Q (.int xs.length)) : biP .len x Q := by
  cases x <;> first | cases h | skip
  all_goals exact k
theorem k_ifnT {A B : Prop} (k : B) : kIf (!true) A B := k
theorem k_ifnF {A B : Prop} (k : A) : kIf (!false) A B := k
theorem k_io {m : List Bool} {Q : List T → Prop} {Γ : Env} (h : m.any id = false) (k : Q []) : ioK m Q Γ := by
  unfold ioK
  rw [h]
  exact k
theorem isFs_nil : isFs [] = true := rfl
theorem isFs_cons {x : T} {xs : List T} (h : isF x = true) (k : isFs xs = true) : isFs (x :: xs) = true := by simp [isFs, h, k]
theorem isFs_app {xs ys : List T} (h : isFs xs = true) (k : isFs ys = true) : isFs (xs ++ ys) = true := by rw [isFs_all, List.all_append, ← isFs_all, ← isFs_all, h, k]; rfl
theorem isF_tup {xs : List T} (h : isFs xs = true) : isF (.tup xs) = true := by simpa [isF] using h
theorem isF_lst {xs : List T} (h : isFs xs = true) : isF (.lst false xs) = true := by simpa [isF] using h
theorem isF_int {i : Int} : isF (.int i) = true := rfl
theorem isF_bl {i : Bool} : isF (.bl i) = true := rfl
theorem isF_str {i : Str} : isF (.str i) = true := rfl
theorem isF_non : isF .non = true := rfl
/-- what kind of goal it is -/
theorem g_wpSs {Φ : Nat → Spec} {ss : Ss} {D : Ends} {Γ : Env} (h : wpSs Φ ss D Γ) : wpSs Φ ss D Γ := h
theorem g_wpS {Φ : Nat → Spec} {s : S} {D : Ends} {Γ : Env} (h : wpS Φ s D Γ) : wpS Φ s D Γ := h
theorem g_wpE {Φ : Nat → Spec} {e : E} {Γ : Env} {Q : T → Env → Prop} (h : wpE Φ e Γ Q) : wpE Φ e Γ Q := h
theorem g_wpC {Φ : Nat → Spec} {e : C} {Γ : Env} {Q : Bool → Env → Prop} (h : wpC Φ e Γ Q) : wpC Φ e Γ Q := h
theorem g_wpI {Φ : Nat → Spec} {e : I} {Γ : Env} {Q : List T → Env → Prop} (h : wpI Φ e Γ Q) : wpI Φ e Γ Q := h
theorem g_rlP {r : Rl} {a b : T} {Q : Bool → Prop} (h : rlP r a b Q) : rlP r a b Q := h
theorem g_biP {r : Bi} {a : T} {Q : T → Prop} (h : biP r a Q) : biP r a Q := h
theorem g_opP {r : Op} {a b : T} {Q : T → Prop} (h : opP r a b Q) : opP r a b Q := h
theorem g_slP {a : T} {l r : Option Int} {Q : T → Prop} (h : slP a l r Q) : slP a l r Q := h
theorem g_kIf {c : Bool} {A B : Prop} (h : kIf c A B) : kIf c A B := h
theorem g_kHold {p : P} {x : T} {Γ : Env} {R : List T → Env → Prop} (h : kHold p x Γ R) : kHold p x Γ R := h
end PL

end
section
set_option maxHeartbeats 4000000
/-! PLy: the law's def, where the script is handed in. -/
namespace PL
open PySem PySem.Spec L2
open PyProof.Rows hiding St
theorem law_sp {K : PySem.W.Frag} {H : Hp} {a : Addr} {ns : List Int} {φ : Spec} {E : XK} (hS : SqL K H a (ns.map V.int)) (hφ : ∀ Q : T → List T → Prop, Q (.bl true) [] → φ [.scr ns] Q) :
    spT K [false] φ [.ref a] H (fun v _ => v = .bl true) E := by
  refine ⟨rfl, [.scr ns], [[]], fun b => ∃ o, H b = some o, fun t io => t = .bl true ∧ io = [], ?_, rfl, ⟨by simp, by simp, by simp⟩, fun b h => h, hφ _ ⟨rfl, rfl⟩, ?_⟩
  · refine ⟨?_, trivial⟩
    simp only [Rep]
    refine ⟨trivial, a, rfl, ?_⟩
    rcases hS with h | h
    · refine .inl ⟨?_, h⟩
      rcases h with h | ⟨o, h⟩
      · exact ⟨_, h⟩
      · exact ⟨_, h⟩
    · exact .inr h
  · rintro t io v H' Z' os Oio ⟨rfl, rfl⟩ hr _ _ _ _
    simp only [Rep] at hr
    exact hr.2
theorem _root_.L2.FunD.bindsK {K : PySem.W.Frag} {x qual : Str} {params : Arguments} {body : List Stmt} {scope : Scope} {kws : List (Str × V)} {f : Addr} {fd : FuncData} {ps : List Str} (F : FunD K x qual params body scope [] kws f fd)
    (h : ∀ (kV doc pm : Value) (an : Option Addr) (cdv ct : Value) (us : List Value), us.length = ps.length → bindArgs (PySem.W.fnOf x qual params body scope .none kV doc pm an cdv ct) ⟨[], ps.zip us⟩ = pure (ps.zip us)) (s : Shared) (us : List Value) (hl : us.length = ps.length) : BindsTo s fd ⟨[], ps.zip us⟩ (ps.zip us) := by
  obtain ⟨oc, od, dV, kV, doc, pm, an, cdv, ct, osl, rfl, lk, hcd, hD, hK⟩ := F.ex
  rcases hD with ⟨_, rfl⟩ | ⟨e, _⟩
  · exact .of_eq (h kV doc pm an cdv ct us hl)
  · exact absurd rfl e
/-- what is to be shown of a def -/
def VCd (Φ : Nat → Spec) (m : List Bool) (φ : Spec) (il : Ss) (n : Nat) : Prop :=
  ∀ ts Q, ts.length = m.length → argsM m ts = true → φ ts Q → wpSs Φ il { nx := fun Γ => ioK m (Q .non) Γ, rt := fun t Γ => ioK m (Q t) Γ } (ent n ts)
theorem def_in {P : Program} {w : World} {K : PySem.W.Frag} {mg : Str → Option Value} {base : Heap} {k : Nat} {x : Str} {st : Stmt} {f : Addr} {fd : FuncData} {N ps : List Str} {m : List Bool} {ns : List Str} {fs : List (Str × Sg)} {Φ : Nat → Spec} {φ : Spec} {il : Ss}
    (all : AllF P w K mg base fs Φ k) (mgN : ∀ x ∈ bltN, mg x = none) (F : FunD K x x (defArgs st) (defBody st) (defScope st) [] [] f fd) (g : mg x = some (.ref f)) (S : FnScope N ps (defScope st)) (hm : m.length = ps.length)
    (ck : cSs 200 ⟨N, defScope st, defScope st, fs.take k, ioIx m⟩ il (defBody st) = true) (vc : VCd Φ m φ il N.length)
    (b : ∀ (kV doc pm : Value) (an : Option Addr) (cdv ct : Value) (us : List Value), us.length = ps.length → bindArgs (PySem.W.fnOf x x (defArgs st) (defBody st) (defScope st) .none kV doc pm an cdv ct) ⟨us, []⟩ = pure (ps.zip us))
    (hk : ns = [] ∨ (ns = ps ∧ ∀ (kV doc pm : Value) (an : Option Addr) (cdv ct : Value) (us : List Value), us.length = ps.length → bindArgs (PySem.W.fnOf x x (defArgs st) (defBody st) (defScope st) .none kV doc pm an cdv ct) ⟨[], ps.zip us⟩ = pure (ps.zip us)) := by exact .inl rfl) : FnIn P w K mg base (k + 1) x (m, ns) φ :=
  ⟨f, fd, ps, def_ok k 200 F S hm all (Nat.le_refl _) mgN ck vc, g, F.kp, F.bindsN b, hk.imp id fun h => ⟨h.1, fun s ws _ hl => F.bindsK h.2 s ws hl, hm⟩⟩
end PL

end
section
set_option maxHeartbeats 0
namespace HeadT
open PySem PySem.Spec PyProof.Rows L2
def top (i : Nat) : Stmt := PySem.Challenge.pw_halffilled_k84_whole_centres.main.body.getD i (.Pass ⟨0, 0, 0, 0⟩)
def mkD (x : Str) (i : Nat) : He.DefD := ⟨(x, none), x, x, defArgs (top i), defBody (top i), defScope (top i), [], []⟩

def fn0 : List He.DefD := [mkD "far_from" 1, mkD "centre_of" 2, mkD "rank_sheet" 4, mkD "weighted_answer" 5, mkD "weighted_middle" 6, mkD "_law_pool" 8, mkD "_law_pick" 9, mkD "_law_fields" 10, mkD "_law_sayings" 11, mkD "_law_holds" 12, mkD "_law_contrary" 13, mkD "_law_strong" 14, mkD "_law_answer_sayings" 15, mkD "_law_keeps" 16, mkD "_law_all" 17, mkD "_law_agrees" 18, mkD "_law_rules" 19, mkD "_law_counts" 20, mkD "_law_form" 21, mkD "_law_half" 22, mkD "_law_same" 23, mkD "_law_rising" 24, mkD "_law_far" 25, mkD "_law_rank" 26, mkD "_law_centre" 27, mkD "_law_weighted" 28, mkD "_law_weights" 29, mkD "_law_asks" 30, mkD "_law_among" 31, mkD "_law_scene" 32]
def fn1 : List He.DefD := [mkD "_law_wide" 33, mkD "law" 34]
def fn : List He.DefD := fn0 ++ fn1
def fa0 : List He.Fa := [.glo "far_from", .glo "centre_of", .glo "rank_sheet", .glo "weighted_answer", .glo "weighted_middle", .glo "_law_pool", .glo "_law_pick", .glo "_law_fields", .glo "_law_sayings", .glo "_law_holds", .glo "_law_contrary", .glo "_law_strong", .glo "_law_answer_sayings", .glo "_law_keeps", .glo "_law_all", .glo "_law_agrees", .glo "_law_rules", .glo "_law_counts", .glo "_law_form", .glo "_law_half", .glo "_law_same", .glo "_law_rising", .glo "_law_far", .glo "_law_rank", .glo "_law_centre", .glo "_law_weighted", .glo "_law_weights", .glo "_law_asks", .glo "_law_among", .glo "_law_scene"]
def fa1 : List He.Fa := [.glo "_law_wide", .glo "law"]
def faB : List He.Fa := [.free "len", .free "list", .free "tuple", .free "int", .free "sorted", .free "abs", .free "sum", .free "all", .free "any", .free "str", .free "isinstance", .free "bool", .free "max", .free "min", .free "range", .free "enumerate", .free "zip", .free "set"]
def fa : List He.Fa := fa0 ++ fa1 ++ faB
abbrev R : PySem.W.OpenRow := PySem.W.OpenLaw.row PySem.Challenge.rw_halffilled_k84_whole_centres
abbrev hk : PySem.W.Hook := He.hookD 4 fa fn
def ob (s : PySem.W.SharedT) : He.AlD := He.obsDG 4 fa fn (HandSHeadRun.getT s)
theorem ob_eq (s : PySem.W.SharedT) : ob s = hk.obs s.abs := He.obsDG_eq (HandSHeadRun.getT_eq s)
def nm0 : List PySem.Str := ["far_from", "centre_of", "rank_sheet", "weighted_answer", "weighted_middle", "_law_pool", "_law_pick", "_law_fields", "_law_sayings", "_law_holds", "_law_contrary", "_law_strong", "_law_answer_sayings", "_law_keeps", "_law_all", "_law_agrees", "_law_rules", "_law_counts", "_law_form", "_law_half", "_law_same", "_law_rising", "_law_far", "_law_rank", "_law_centre", "_law_weighted", "_law_weights", "_law_asks", "_law_among", "_law_scene"]
def nm1 : List PySem.Str := ["_law_wide"]
def nm : List PySem.Str := nm0 ++ nm1
theorem run (w : World) : HandSHeadRun.RunEq R (PySem.W.view R.prog [34]) hk ob 3000 nm w := by
  intro os
  kernel_rfl
end HeadT

end
section
set_option maxHeartbeats 0
namespace K84
open PySem PySem.Spec L2 PL
open PyProof.Rows hiding St
def top (i : Nat) : Stmt := PySem.Challenge.pw_halffilled_k84_whole_centres.main.body.getD i (.Pass ⟨0, 0, 0, 0⟩)
def fs : List (Str × Sg) := [(("far_from" : Str), [false, false], ["sheets", "sheet"]), (("centre_of" : Str), [false], ["sheets"]), (("rank_sheet" : Str), [false, false], ["sheets", "many"]), (("weighted_answer" : Str), [false, false], []), (("weighted_middle" : Str), [false, false], ["sheets", "weights"]), (("_law_pool" : Str), [false], []), (("_law_pick" : Str), [true, false], []), (("_law_fields" : Str), [true, false], []), (("_law_sayings" : Str), [false], []), (("_law_holds" : Str), [false, false], []), (("_law_contrary" : Str), [false], []), (("_law_strong" : Str), [false, false], []), (("_law_answer_sayings" : Str), [false, false, false], []), (("_law_keeps" : Str), [false, false], []), (("_law_all" : Str), [false], []), (("_law_agrees" : Str), [false, false], []), (("_law_rules" : Str), [true, false, false, false], []), (("_law_counts" : Str), [true, false], []), (("_law_form" : Str), [true, false, false], []), (("_law_half" : Str), [true, false, false], []), (("_law_same" : Str), [false, false], []), (("_law_rising" : Str), [true, false], []), (("_law_far" : Str), [false, false], []), (("_law_rank" : Str), [false, false], []), (("_law_centre" : Str), [false], []), (("_law_weighted" : Str), [false, false], []), (("_law_weights" : Str), [true, false], []), (("_law_asks" : Str), [true, false, false], []), (("_law_among" : Str), [false, false], []), (("_law_scene" : Str), [true, false, false], []), (("_law_wide" : Str), [true], []), (("law" : Str), [false], [])]
/-- 0: far_from 0=sheets 1=sheet 2=other 3=answer 4=own -/
def n_far_from : List Str := ["sheets", "sheet", "other", "answer", "own"]
def p_far_from : List Str := ["sheets", "sheet"]
def il_far_from : Ss := (.cons (.ret (.bi .sum (.tmp (.lc2 [2, 3, 4] (.seq (.var 0)) (.nm 2) .no [3, 4] (.zip2 (.var 2) (.var 1)) (.tp [(.nm 3), (.nm 4)]) .no (.bi .abs (.tmp (.op .sub (.cp 3) (.cp 4)))))))) .nil)
theorem ck_far_from : cSs 200 ⟨n_far_from, defScope (top 1), defScope (top 1), fs.take 0, ioIx [false, false]⟩ il_far_from (defBody (top 1)) = true := by decide +kernel
theorem sc_far_from : FnScope n_far_from p_far_from (defScope (top 1)) := ⟨rfl, rfl, rfl, by decide +kernel, rfl, by decide +kernel, by decide +kernel⟩
/-- 1: centre_of 0=sheets 1=many 2=odd 3=answers -/
def n_centre_of : List Str := ["sheets", "many", "odd", "answers"]
def p_centre_of : List Str := ["sheets"]
def il_centre_of : Ss := (.cons (.asg (.nm 1) (.bi .len (.var 0))) (.cons (.asg (.nm 2) (.ifx (.cmp .eq (.tmp (.op .mod (.cp 1) (.int 2))) (.tmp (.int 1))) (.cp 0) (.sl (.var 0) .no (.so (.op .sub (.cp 1) (.int 1)))))) (.cons (.ret (.bi .tuple (.tmp (.lc [3] (.zips (.var 2)) (.nm 3) .no (.idx (.tmp (.bi .sorted (.var 3))) (.op .fdiv (.bi .len (.var 2)) (.int 2))))))) .nil)))
theorem ck_centre_of : cSs 200 ⟨n_centre_of, defScope (top 2), defScope (top 2), fs.take 1, ioIx [false]⟩ il_centre_of (defBody (top 2)) = true := by decide +kernel
theorem sc_centre_of : FnScope n_centre_of p_centre_of (defScope (top 2)) := ⟨rfl, rfl, rfl, by decide +kernel, rfl, by decide +kernel, by decide +kernel⟩
/-- 2: rank_sheet 0=sheets 1=many 2=answers -/
def n_rank_sheet : List Str := ["sheets", "many", "answers"]
def p_rank_sheet : List Str := ["sheets", "many"]
def il_rank_sheet : Ss := (.cons (.ret (.bi .tuple (.tmp (.lc [2] (.zips (.var 0)) (.nm 2) .no (.idx (.tmp (.bi .sorted (.var 2))) (.cp 1)))))) .nil)
theorem ck_rank_sheet : cSs 200 ⟨n_rank_sheet, defScope (top 4), defScope (top 4), fs.take 2, ioIx [false, false]⟩ il_rank_sheet (defBody (top 4)) = true := by decide +kernel
theorem sc_rank_sheet : FnScope n_rank_sheet p_rank_sheet (defScope (top 4)) := ⟨rfl, rfl, rfl, by decide +kernel, rfl, by decide +kernel, by decide +kernel⟩
/-- 3: weighted_answer 0=answers 1=weights 2=total 3=answer 4=weight -/
def n_weighted_answer : List Str := ["answers", "weights", "total", "answer", "weight"]
def p_weighted_answer : List Str := ["answers", "weights"]
def il_weighted_answer : Ss := (.cons (.asg (.nm 2) (.int 0)) (.cons (.forr (.tp [(.nm 3), (.nm 4)]) (.seq (.tmp (.szip (.cp 0) (.cp 1)))) (.cons (.aug 2 .add (.cp 4)) (.cons (.iff (.cmp .gt (.tmp (.op .mul (.int 2) (.cp 2))) (.tmp (.bi .sum (.var 1)))) (.cons (.ret (.cp 3)) .nil) .nil) (.cons (.kill [3, 4]) .nil)))) (.cons (.ret .non) .nil)))
theorem ck_weighted_answer : cSs 200 ⟨n_weighted_answer, defScope (top 5), defScope (top 5), fs.take 3, ioIx [false, false]⟩ il_weighted_answer (defBody (top 5)) = true := by decide +kernel
theorem sc_weighted_answer : FnScope n_weighted_answer p_weighted_answer (defScope (top 5)) := ⟨rfl, rfl, rfl, by decide +kernel, rfl, by decide +kernel, by decide +kernel⟩
/-- 4: weighted_middle 0=sheets 1=weights 2=answers -/
def n_weighted_middle : List Str := ["sheets", "weights", "answers"]
def p_weighted_middle : List Str := ["sheets", "weights"]
def il_weighted_middle : Ss := (.cons (.ret (.bi .tuple (.tmp (.lc [2] (.zips (.var 0)) (.nm 2) .no (.call 3 (.cons (.cp 2) (.cons (.cp 1) .nil))))))) .nil)
theorem ck_weighted_middle : cSs 200 ⟨n_weighted_middle, defScope (top 6), defScope (top 6), fs.take 4, ioIx [false, false]⟩ il_weighted_middle (defBody (top 6)) = true := by decide +kernel
theorem sc_weighted_middle : FnScope n_weighted_middle p_weighted_middle (defScope (top 6)) := ⟨rfl, rfl, rfl, by decide +kernel, rfl, by decide +kernel, by decide +kernel⟩
/-- 5: _law_pool 0=script 1=pool 2=cell 3=number 4=turn -/
def n__law_pool : List Str := ["script", "pool", "cell", "number", "turn"]
def p__law_pool : List Str := ["script"]
def il__law_pool : Ss := (.cons (.asg (.nm 1) (.lst (.cons (.int 141985) (.cons (.int 2) .nil)))) (.cons (.forr (.nm 2) (.seq (.tmp (.sl (.var 0) .no (.so (.int 63))))) (.cons (.asg (.nm 3) (.bi .int (.var 2))) (.cons (.iff (.cmp .lt (.var 3) (.tmp (.int 0))) (.cons (.asg (.nm 3) (.op .sub (.int 9) (.op .mul (.int 2) (.cp 3)))) .nil) .nil) (.cons (.setIx 1 (.int 0) (.op .mod (.bi .int (.tmp (.op .add (.op .add (.op .mul (.idx (.var 1) (.int 0)) (.int 16807)) (.op .mod (.bi .int (.var 3)) (.int 2147483563))) (.int 119)))) (.int 2147483647))) (.cons (.iff (.cmp .ge (.var 3) (.tmp (.op .pow (.int 10) (.int 18)))) (.cons (.forr (.nm 4) (.rng1 (.int 60)) (.cons (.iff (.cmp .eq (.var 3) (.tmp (.int 0))) (.cons (.brk) .nil) .nil) (.cons (.app 1 (.op .mod (.bi .int (.var 3)) (.int 6930))) (.cons (.asg (.nm 3) (.op .fdiv (.cp 3) (.int 6930))) (.cons (.kill [4]) .nil))))) (.cons (.kill [3, 4]) .nil)) .nil) (.cons (.kill [3, 4]) (.cons (.kill [2, 3, 4]) .nil))))))) (.cons (.kill [2, 3, 4]) (.cons (.ret (.take 1)) .nil))))
theorem ck__law_pool : cSs 200 ⟨n__law_pool, defScope (top 8), defScope (top 8), fs.take 5, ioIx [false]⟩ il__law_pool (defBody (top 8)) = true := by decide +kernel
theorem sc__law_pool : FnScope n__law_pool p__law_pool (defScope (top 8)) := ⟨rfl, rfl, rfl, by decide +kernel, rfl, by decide +kernel, by decide +kernel⟩
/-- 6: _law_pick 0=pool 1=many -/
def n__law_pick : List Str := ["pool", "many"]
def p__law_pick : List Str := ["pool", "many"]
def il__law_pick : Ss := (.cons (.iff (.cmp .lt (.tmp (.idx (.var 0) (.int 1))) (.tmp (.bi .len (.var 0)))) (.cons (.setIx 0 (.int 1) (.op .add (.idx (.var 0) (.int 1)) (.int 1))) (.cons (.ret (.op .mod (.bi .int (.tmp (.idx (.var 0) (.op .sub (.idx (.var 0) (.int 1)) (.int 1))))) (.cp 1))) .nil)) .nil) (.cons (.setIx 0 (.int 0) (.op .mod (.bi .int (.tmp (.op .add (.op .mul (.idx (.var 0) (.int 0)) (.int 39373)) (.int 7079)))) (.int 2147483647))) (.cons (.ret (.op .mod (.bi .int (.tmp (.op .fdiv (.idx (.var 0) (.int 0)) (.int 5807)))) (.cp 1))) .nil)))
theorem ck__law_pick : cSs 200 ⟨n__law_pick, defScope (top 9), defScope (top 9), fs.take 6, ioIx [true, false]⟩ il__law_pick (defBody (top 9)) = true := by decide +kernel
theorem sc__law_pick : FnScope n__law_pick p__law_pick (defScope (top 9)) := ⟨rfl, rfl, rfl, by decide +kernel, rfl, by decide +kernel, by decide +kernel⟩
/-- 7: _law_fields 0=pool 1=counts 2=signs 3=fields 4=names 5=many 6=name 7=turn 8=low -/
def n__law_fields : List Str := ["pool", "counts", "signs", "fields", "names", "many", "name", "turn", "low"]
def p__law_fields : List Str := ["pool", "counts"]
def il__law_fields : Ss := (.cons (.asg (.nm 2) (.str "abcdefghijklmnopqrstuvwxyz0123456789")) (.cons (.asg (.nm 3) (.lst .nil)) (.cons (.asg (.nm 4) (.lst .nil)) (.cons (.forr (.nm 5) (.seq (.var 1)) (.cons (.asg (.nm 6) (.idx (.var 2) (.call 6 (.lend 0 (.cons (.int 26) .nil))))) (.cons (.forr (.nm 7) (.rng1 (.idx (.tmp (.tup (.cons (.int 0) (.cons (.int 0) (.cons (.int 1) (.cons (.int 2) (.cons (.int 4) (.cons (.int 7) .nil)))))))) (.call 6 (.lend 0 (.cons (.int 6) .nil))))) (.cons (.asg (.nm 6) (.op .add (.cp 6) (.idx (.var 2) (.call 6 (.lend 0 (.cons (.int 36) .nil)))))) (.cons (.kill [7]) .nil))) (.cons (.iff (.cmp .inn (.var 6) (.var 4)) (.cons (.asg (.nm 6) (.op .add (.str "zo") (.bi .str (.tmp (.bi .len (.var 4)))))) .nil) .nil) (.cons (.kill [7]) (.cons (.forr (.nm 7) (.rng1 (.int 20)) (.cons (.iff (.cmp .inn (.var 6) (.var 4)) (.cons (.asg (.nm 6) (.op .add (.str "zo") (.bi .str (.tmp (.op .add (.int 20) (.cp 7)))))) .nil) .nil) (.cons (.kill [7]) .nil))) (.cons (.app 4 (.cp 6)) (.cons (.asg (.nm 8) (.idx (.tmp (.tup (.cons (.op .sub (.call 6 (.lend 0 (.cons (.int 7) .nil))) (.int 3)) (.cons (.int 0) (.cons (.op .sub (.int 0) (.op .pow (.int 10) (.int 6))) (.cons (.op .sub (.op .pow (.int 10) (.int 6)) (.int 19)) .nil)))))) (.idx (.tmp (.tup (.cons (.int 0) (.cons (.int 0) (.cons (.int 0) (.cons (.int 0) (.cons (.int 1) (.cons (.int 1) (.cons (.int 2) (.cons (.int 3) .nil)))))))))) (.call 6 (.lend 0 (.cons (.int 8) .nil)))))) (.cons (.app 3 (.tup (.cons (.cp 6) (.cons (.cp 8) (.cons (.op .sub (.op .add (.cp 8) (.cp 5)) (.int 1)) .nil))))) (.cons (.kill [5, 6, 7, 8]) .nil)))))))))) (.cons (.ret (.bi .tuple (.var 3))) .nil)))))
theorem ck__law_fields : cSs 200 ⟨n__law_fields, defScope (top 10), defScope (top 10), fs.take 7, ioIx [true, false]⟩ il__law_fields (defBody (top 10)) = true := by decide +kernel
theorem sc__law_fields : FnScope n__law_fields p__law_fields (defScope (top 10)) := ⟨rfl, rfl, rfl, by decide +kernel, rfl, by decide +kernel, by decide +kernel⟩
/-- 8: _law_sayings 0=fields 1=found 2=f 3=v -/
def n__law_sayings : List Str := ["fields", "found", "f", "v"]
def p__law_sayings : List Str := ["fields"]
def il__law_sayings : Ss := (.cons (.asg (.nm 1) (.lst .nil)) (.cons (.forr (.nm 2) (.rng1 (.bi .len (.var 0))) (.cons (.asg (.nm 1) (.op .add (.take 1) (.lc [3] (.rng2 (.idx (.tmp (.idx (.var 0) (.cp 2))) (.int 1)) (.idx (.tmp (.idx (.var 0) (.cp 2))) (.int 2))) (.nm 3) .no (.tup (.cons (.cp 2) (.cons (.neg (.int 1)) (.cons (.cp 3) .nil))))))) (.cons (.asg (.nm 1) (.op .add (.take 1) (.lc [3] (.rng2 (.op .add (.idx (.tmp (.idx (.var 0) (.cp 2))) (.int 1)) (.int 1)) (.op .add (.idx (.tmp (.idx (.var 0) (.cp 2))) (.int 2)) (.int 1))) (.nm 3) .no (.tup (.cons (.cp 2) (.cons (.int 1) (.cons (.cp 3) .nil))))))) (.cons (.kill [2]) .nil)))) (.cons (.ret (.take 1)) .nil)))
theorem ck__law_sayings : cSs 200 ⟨n__law_sayings, defScope (top 11), defScope (top 11), fs.take 8, ioIx [false]⟩ il__law_sayings (defBody (top 11)) = true := by decide +kernel
theorem sc__law_sayings : FnScope n__law_sayings p__law_sayings (defScope (top 11)) := ⟨rfl, rfl, rfl, by decide +kernel, rfl, by decide +kernel, by decide +kernel⟩
/-- 9: _law_holds 0=saying 1=answer -/
def n__law_holds : List Str := ["saying", "answer"]
def p__law_holds : List Str := ["saying", "answer"]
def il__law_holds : Ss := (.cons (.ret (.cmp .ge (.tmp (.op .mul (.op .sub (.cp 1) (.idx (.var 0) (.int 2))) (.idx (.var 0) (.int 1)))) (.tmp (.int 0)))) .nil)
theorem ck__law_holds : cSs 200 ⟨n__law_holds, defScope (top 12), defScope (top 12), fs.take 9, ioIx [false, false]⟩ il__law_holds (defBody (top 12)) = true := by decide +kernel
theorem sc__law_holds : FnScope n__law_holds p__law_holds (defScope (top 12)) := ⟨rfl, rfl, rfl, by decide +kernel, rfl, by decide +kernel, by decide +kernel⟩
/-- 10: _law_contrary 0=saying -/
def n__law_contrary : List Str := ["saying"]
def p__law_contrary : List Str := ["saying"]
def il__law_contrary : Ss := (.cons (.ret (.tup (.cons (.idx (.var 0) (.int 0)) (.cons (.op .sub (.int 0) (.idx (.var 0) (.int 1))) (.cons (.op .sub (.idx (.var 0) (.int 2)) (.idx (.var 0) (.int 1))) .nil))))) .nil)
theorem ck__law_contrary : cSs 200 ⟨n__law_contrary, defScope (top 13), defScope (top 13), fs.take 10, ioIx [false]⟩ il__law_contrary (defBody (top 13)) = true := by decide +kernel
theorem sc__law_contrary : FnScope n__law_contrary p__law_contrary (defScope (top 13)) := ⟨rfl, rfl, rfl, by decide +kernel, rfl, by decide +kernel, by decide +kernel⟩
/-- 11: _law_strong 0=one 1=other -/
def n__law_strong : List Str := ["one", "other"]
def p__law_strong : List Str := ["one", "other"]
def il__law_strong : Ss := (.cons (.ret (.and (.cmp .eq (.tmp (.idx (.var 0) (.int 0))) (.tmp (.idx (.var 1) (.int 0)))) (.and (.cmp .eq (.tmp (.idx (.var 0) (.int 1))) (.tmp (.idx (.var 1) (.int 1)))) (.cmp .ge (.tmp (.op .mul (.op .sub (.idx (.var 0) (.int 2)) (.idx (.var 1) (.int 2))) (.idx (.var 0) (.int 1)))) (.tmp (.int 0)))))) .nil)
theorem ck__law_strong : cSs 200 ⟨n__law_strong, defScope (top 14), defScope (top 14), fs.take 11, ioIx [false, false]⟩ il__law_strong (defBody (top 14)) = true := by decide +kernel
theorem sc__law_strong : FnScope n__law_strong p__law_strong (defScope (top 14)) := ⟨rfl, rfl, rfl, by decide +kernel, rfl, by decide +kernel, by decide +kernel⟩
/-- 12: _law_answer_sayings 0=fields 1=f 2=v 3=found -/
def n__law_answer_sayings : List Str := ["fields", "f", "v", "found"]
def p__law_answer_sayings : List Str := ["fields", "f", "v"]
def il__law_answer_sayings : Ss := (.cons (.asg (.nm 3) (.lst .nil)) (.cons (.iff (.cmp .lt (.var 2) (.tmp (.idx (.tmp (.idx (.var 0) (.cp 1))) (.int 2)))) (.cons (.app 3 (.tup (.cons (.cp 1) (.cons (.neg (.int 1)) (.cons (.cp 2) .nil))))) .nil) .nil) (.cons (.iff (.cmp .gt (.var 2) (.tmp (.idx (.tmp (.idx (.var 0) (.cp 1))) (.int 1)))) (.cons (.app 3 (.tup (.cons (.cp 1) (.cons (.int 1) (.cons (.cp 2) .nil))))) .nil) .nil) (.cons (.ret (.take 3)) .nil))))
theorem ck__law_answer_sayings : cSs 200 ⟨n__law_answer_sayings, defScope (top 15), defScope (top 15), fs.take 12, ioIx [false, false, false]⟩ il__law_answer_sayings (defBody (top 15)) = true := by decide +kernel
theorem sc__law_answer_sayings : FnScope n__law_answer_sayings p__law_answer_sayings (defScope (top 15)) := ⟨rfl, rfl, rfl, by decide +kernel, rfl, by decide +kernel, by decide +kernel⟩
/-- 13: _law_keeps 0=rules 1=sheet 2=p 3=q -/
def n__law_keeps : List Str := ["rules", "sheet", "p", "q"]
def p__law_keeps : List Str := ["rules", "sheet"]
def il__law_keeps : Ss := (.cons (.forr (.tp [(.nm 2), (.nm 3)]) (.seq (.var 0)) (.cons (.iff (.and (.not (.val (.tmp (.call 9 (.cons (.cp 2) (.cons (.idx (.var 1) (.idx (.var 2) (.int 0))) .nil)))))) (.not (.val (.tmp (.call 9 (.cons (.cp 3) (.cons (.idx (.var 1) (.idx (.var 3) (.int 0))) .nil))))))) (.cons (.ret (.bl false)) .nil) .nil) (.cons (.kill [2, 3]) .nil))) (.cons (.ret (.bl true)) .nil))
theorem ck__law_keeps : cSs 200 ⟨n__law_keeps, defScope (top 16), defScope (top 16), fs.take 13, ioIx [false, false]⟩ il__law_keeps (defBody (top 16)) = true := by decide +kernel
theorem sc__law_keeps : FnScope n__law_keeps p__law_keeps (defScope (top 16)) := ⟨rfl, rfl, rfl, by decide +kernel, rfl, by decide +kernel, by decide +kernel⟩
/-- 14: _law_all 0=fields 1=rows 2=name 3=low 4=high 5=more 6=row 7=answer -/
def n__law_all : List Str := ["fields", "rows", "name", "low", "high", "more", "row", "answer"]
def p__law_all : List Str := ["fields"]
def il__law_all : Ss := (.cons (.asg (.nm 1) (.lst (.cons (.tup .nil) .nil))) (.cons (.forr (.tp [(.nm 2), (.nm 3), (.nm 4)]) (.seq (.var 0)) (.cons (.asg (.nm 5) (.lst .nil)) (.cons (.forB (.nm 6) 1 (.cons (.asg (.nm 5) (.op .add (.take 5) (.lc [7] (.rng2 (.cp 3) (.op .add (.cp 4) (.int 1))) (.nm 7) .no (.op .add (.cp 6) (.tup (.cons (.cp 7) .nil)))))) (.cons (.kill [6]) .nil))) (.cons (.asg (.nm 1) (.take 5)) (.cons (.kill [2, 3, 4, 5, 6]) .nil))))) (.cons (.ret (.take 1)) .nil)))
theorem ck__law_all : cSs 200 ⟨n__law_all, defScope (top 17), defScope (top 17), fs.take 14, ioIx [false]⟩ il__law_all (defBody (top 17)) = true := by decide +kernel
theorem sc__law_all : FnScope n__law_all p__law_all (defScope (top 17)) := ⟨rfl, rfl, rfl, by decide +kernel, rfl, by decide +kernel, by decide +kernel⟩
/-- 15: _law_agrees 0=half 1=sheet 2=f -/
def n__law_agrees : List Str := ["half", "sheet", "f"]
def p__law_agrees : List Str := ["half", "sheet"]
def il__law_agrees : Ss := (.cons (.forr (.nm 2) (.rng1 (.bi .len (.var 0))) (.cons (.iff (.and (.cmp .isn (.tmp (.idx (.var 0) (.cp 2))) (.tmp .non)) (.cmp .ne (.tmp (.idx (.var 0) (.cp 2))) (.tmp (.idx (.var 1) (.cp 2))))) (.cons (.ret (.bl false)) .nil) .nil) (.cons (.kill [2]) .nil))) (.cons (.ret (.bl true)) .nil))
theorem ck__law_agrees : cSs 200 ⟨n__law_agrees, defScope (top 18), defScope (top 18), fs.take 15, ioIx [false, false]⟩ il__law_agrees (defBody (top 18)) = true := by decide +kernel
theorem sc__law_agrees : FnScope n__law_agrees p__law_agrees (defScope (top 18)) := ⟨rfl, rfl, rfl, by decide +kernel, rfl, by decide +kernel, by decide +kernel⟩
/-- 16: _law_rules 0=pool 1=fields 2=many 3=base 4=sayings 5=rules 6=turn 7=p 8=q 9=how -/
def n__law_rules : List Str := ["pool", "fields", "many", "base", "sayings", "rules", "turn", "p", "q", "how"]
def p__law_rules : List Str := ["pool", "fields", "many", "base"]
def il__law_rules : Ss := (.cons (.asg (.nm 4) (.call 8 (.cons (.cp 1) .nil))) (.cons (.asg (.nm 5) (.lst .nil)) (.cons (.iff (.cmp .eq (.tmp (.bi .len (.var 4))) (.tmp (.int 0))) (.cons (.ret (.tup .nil)) .nil) .nil) (.cons (.forr (.nm 6) (.rng1 (.cp 2)) (.cons (.asg (.nm 7) (.idx (.var 4) (.call 6 (.lend 0 (.cons (.bi .len (.var 4)) .nil))))) (.cons (.asg (.nm 8) (.idx (.var 4) (.call 6 (.lend 0 (.cons (.bi .len (.var 4)) .nil))))) (.cons (.asg (.nm 9) (.call 6 (.lend 0 (.cons (.int 9) .nil)))) (.cons (.iff (.cmp .eq (.var 9) (.tmp (.int 0))) (.cons (.asg (.nm 8) (.cp 7)) .nil) .nil) (.cons (.iff (.and (.not (.val (.tmp (.call 9 (.cons (.cp 7) (.cons (.idx (.var 3) (.idx (.var 7) (.int 0))) .nil)))))) (.not (.val (.tmp (.call 9 (.cons (.cp 8) (.cons (.idx (.var 3) (.idx (.var 8) (.int 0))) .nil))))))) (.cons (.iff (.cmp .eq (.var 9) (.tmp (.int 0))) (.cons (.asg (.nm 8) (.call 10 (.cons (.cp 7) .nil))) (.cons (.asg (.nm 7) (.cp 8)) .nil)) (.cons (.iff (.cmp .lt (.var 9) (.tmp (.int 5))) (.cons (.asg (.nm 7) (.call 10 (.cons (.cp 7) .nil))) .nil) (.cons (.asg (.nm 8) (.call 10 (.cons (.cp 8) .nil))) .nil)) .nil)) .nil) .nil) (.cons (.app 5 (.tup (.cons (.mm false (.cp 7) (.cp 8)) (.cons (.mm true (.cp 7) (.cp 8)) .nil)))) (.cons (.kill [6, 7, 8, 9]) .nil)))))))) (.cons (.ret (.bi .tuple (.tmp (.sset (.var 5))))) .nil)))))
theorem ck__law_rules : cSs 200 ⟨n__law_rules, defScope (top 19), defScope (top 19), fs.take 16, ioIx [true, false, false, false]⟩ il__law_rules (defBody (top 19)) = true := by decide +kernel
theorem sc__law_rules : FnScope n__law_rules p__law_rules (defScope (top 19)) := ⟨rfl, rfl, rfl, by decide +kernel, rfl, by decide +kernel, by decide +kernel⟩
/-- 17: _law_counts 0=pool 1=most 2=counts 3=sheets 4=wide 5=turn 6=many -/
def n__law_counts : List Str := ["pool", "most", "counts", "sheets", "wide", "turn", "many"]
def p__law_counts : List Str := ["pool", "most"]
def il__law_counts : Ss := (.cons (.asg (.nm 2) (.lst .nil)) (.cons (.asg (.nm 3) (.int 1)) (.cons (.asg (.nm 4) (.idx (.tmp (.tup (.cons (.int 4) (.cons (.int 4) (.cons (.int 3) (.cons (.int 2) .nil)))))) (.call 6 (.lend 0 (.cons (.int 4) .nil))))) (.cons (.forr (.nm 5) (.rng1 (.op .add (.op .add (.int 1) (.call 6 (.lend 0 (.cons (.int 4) .nil)))) (.op .mul (.int 3) (.bi .int (.tmp (.cmp .eq (.var 4) (.tmp (.int 2)))))))) (.cons (.asg (.nm 6) (.mm false (.cp 4) (.idx (.tmp (.tup (.cons (.int 1) (.cons (.int 2) (.cons (.int 2) (.cons (.int 3) (.cons (.int 3) (.cons (.int 4) .nil)))))))) (.call 6 (.lend 0 (.cons (.int 6) .nil)))))) (.cons (.iff (.and (.cmp .eq (.var 4) (.tmp (.int 2))) (.cmp .gt (.tmp (.call 6 (.lend 0 (.cons (.int 9) .nil)))) (.tmp (.int 0)))) (.cons (.asg (.nm 6) (.int 2)) .nil) .nil) (.cons (.iff (.cmp .le (.tmp (.op .mul (.cp 3) (.cp 6))) (.var 1)) (.cons (.app 2 (.cp 6)) (.cons (.asg (.nm 3) (.op .mul (.cp 3) (.cp 6))) .nil)) .nil) (.cons (.kill [5, 6]) .nil))))) (.cons (.ret (.take 2)) .nil)))))
theorem ck__law_counts : cSs 200 ⟨n__law_counts, defScope (top 20), defScope (top 20), fs.take 17, ioIx [true, false]⟩ il__law_counts (defBody (top 20)) = true := by decide +kernel
theorem sc__law_counts : FnScope n__law_counts p__law_counts (defScope (top 20)) := ⟨rfl, rfl, rfl, by decide +kernel, rfl, by decide +kernel, by decide +kernel⟩
/-- 18: _law_form 0=pool 1=most 2=rules 3=fields 4=base 5=name 6=low 7=high -/
def n__law_form : List Str := ["pool", "most", "rules", "fields", "base", "name", "low", "high"]
def p__law_form : List Str := ["pool", "most", "rules"]
def il__law_form : Ss := (.cons (.asg (.nm 3) (.call 7 (.lend 0 (.cons (.fz (.call 17 (.lend 0 (.cons (.cp 1) .nil)))) .nil)))) (.cons (.asg (.nm 4) (.bi .tuple (.tmp (.lc [5, 6, 7] (.seq (.var 3)) (.tp [(.nm 5), (.nm 6), (.nm 7)]) .no (.op .add (.cp 6) (.call 6 (.lend 0 (.cons (.op .add (.op .sub (.cp 7) (.cp 6)) (.int 1)) .nil)))))))) (.cons (.ret (.lst (.cons (.tup (.cons (.cp 3) (.cons (.call 16 (.lend 0 (.cons (.cp 3) (.cons (.call 6 (.lend 0 (.cons (.op .add (.cp 2) (.int 1)) .nil))) (.cons (.cp 4) .nil))))) .nil))) (.cons (.cp 4) .nil)))) .nil)))
theorem ck__law_form : cSs 200 ⟨n__law_form, defScope (top 21), defScope (top 21), fs.take 18, ioIx [true, false, false]⟩ il__law_form (defBody (top 21)) = true := by decide +kernel
theorem sc__law_form : FnScope n__law_form p__law_form (defScope (top 21)) := ⟨rfl, rfl, rfl, by decide +kernel, rfl, by decide +kernel, by decide +kernel⟩
/-- 19: _law_half 0=pool 1=fields 2=base 3=blank 4=new 5=half 6=f 7=answer -/
def n__law_half : List Str := ["pool", "fields", "base", "blank", "new", "half", "f", "answer"]
def p__law_half : List Str := ["pool", "fields", "base"]
def il__law_half : Ss := (.cons (.asg (.nm 3) (.op .add (.int 2) (.call 6 (.lend 0 (.cons (.int 4) .nil))))) (.cons (.asg (.nm 4) (.op .add (.int 1) (.call 6 (.lend 0 (.cons (.int 5) .nil))))) (.cons (.asg (.nm 5) (.lst .nil)) (.cons (.forr (.nm 6) (.rng1 (.bi .len (.var 1))) (.cons (.asg (.nm 7) (.idx (.var 2) (.cp 6))) (.cons (.iff (.cmp .eq (.tmp (.call 6 (.lend 0 (.cons (.cp 4) .nil)))) (.tmp (.int 0))) (.cons (.asg (.nm 7) (.op .add (.idx (.tmp (.idx (.var 1) (.cp 6))) (.int 1)) (.call 6 (.lend 0 (.cons (.op .add (.op .sub (.idx (.tmp (.idx (.var 1) (.cp 6))) (.int 2)) (.idx (.tmp (.idx (.var 1) (.cp 6))) (.int 1))) (.int 1)) .nil))))) .nil) .nil) (.cons (.iff (.cmp .eq (.tmp (.call 6 (.lend 0 (.cons (.cp 3) .nil)))) (.tmp (.int 0))) (.cons (.asg (.nm 7) .non) .nil) .nil) (.cons (.app 5 (.cp 7)) (.cons (.kill [6, 7]) .nil)))))) (.cons (.ret (.bi .tuple (.var 5))) .nil)))))
theorem ck__law_half : cSs 200 ⟨n__law_half, defScope (top 22), defScope (top 22), fs.take 19, ioIx [true, false, false]⟩ il__law_half (defBody (top 22)) = true := by decide +kernel
theorem sc__law_half : FnScope n__law_half p__law_half (defScope (top 22)) := ⟨rfl, rfl, rfl, by decide +kernel, rfl, by decide +kernel, by decide +kernel⟩
/-- 20: _law_same 0=told 1=due 2=todo 3=one 4=two 5=place -/
def n__law_same : List Str := ["told", "due", "todo", "one", "two", "place"]
def p__law_same : List Str := ["told", "due"]
def il__law_same : Ss := (.cons (.asg (.nm 2) (.lst (.cons (.tup (.cons (.cp 0) (.cons (.cp 1) .nil))) .nil))) (.cons (.whl (.val (.var 2)) (.cons (.asg (.tp [(.nm 3), (.nm 4)]) (.pop 2)) (.cons (.iff (.cmp .is (.var 4) (.tmp .non)) (.cons (.iff (.cmp .isn (.var 3) (.tmp .non)) (.cons (.ret (.bl false)) .nil) .nil) .nil) (.cons (.iff (.val (.tmp (.isi (.var 4) .bool))) (.cons (.iff (.or (.not (.val (.tmp (.isi (.var 3) .bool)))) (.not (.cmp .eq (.var 3) (.var 4)))) (.cons (.ret (.bl false)) .nil) .nil) .nil) (.cons (.iff (.val (.tmp (.isi (.var 4) .int))) (.cons (.iff (.or (.val (.tmp (.isi (.var 3) .bool))) (.or (.not (.val (.tmp (.isi (.var 3) .int)))) (.not (.cmp .eq (.var 3) (.var 4))))) (.cons (.ret (.bl false)) .nil) .nil) .nil) (.cons (.iff (.val (.tmp (.isi (.var 4) .str))) (.cons (.iff (.or (.not (.val (.tmp (.isi (.var 3) .str)))) (.not (.cmp .eq (.var 3) (.var 4)))) (.cons (.ret (.bl false)) .nil) .nil) .nil) (.cons (.iff (.val (.tmp (.isi (.var 4) .tuple))) (.cons (.iff (.or (.not (.val (.tmp (.isi (.var 3) .tuple)))) (.cmp .ne (.tmp (.bi .len (.var 3))) (.tmp (.bi .len (.var 4))))) (.cons (.ret (.bl false)) .nil) .nil) (.cons (.forr (.nm 5) (.rng1 (.bi .len (.var 4))) (.cons (.app 2 (.tup (.cons (.idx (.var 3) (.cp 5)) (.cons (.idx (.var 4) (.cp 5)) .nil)))) (.cons (.kill [5]) .nil))) .nil)) (.cons (.iff (.val (.tmp (.isi (.var 4) .list))) (.cons (.iff (.or (.not (.val (.tmp (.isi (.var 3) .list)))) (.cmp .ne (.tmp (.bi .len (.var 3))) (.tmp (.bi .len (.var 4))))) (.cons (.ret (.bl false)) .nil) .nil) (.cons (.kill [5]) (.cons (.forr (.nm 5) (.rng1 (.bi .len (.var 4))) (.cons (.app 2 (.tup (.cons (.idx (.var 3) (.cp 5)) (.cons (.idx (.var 4) (.cp 5)) .nil)))) (.cons (.kill [5]) .nil))) .nil))) (.cons (.ret (.bl false)) .nil)) (.cons (.kill [5]) .nil))) (.cons (.kill [5]) .nil))) (.cons (.kill [5]) .nil))) (.cons (.kill [5]) .nil))) (.cons (.kill [5]) .nil))) (.cons (.kill [5]) (.cons (.kill [3, 4, 5]) .nil))))) (.cons (.ret (.bl true)) .nil)))
theorem ck__law_same : cSs 200 ⟨n__law_same, defScope (top 23), defScope (top 23), fs.take 20, ioIx [false, false]⟩ il__law_same (defBody (top 23)) = true := by decide +kernel
theorem sc__law_same : FnScope n__law_same p__law_same (defScope (top 23)) := ⟨rfl, rfl, rfl, by decide +kernel, rfl, by decide +kernel, by decide +kernel⟩
/-- 21: _law_rising 0=pool 1=most 2=fields 3=base 4=name 5=low 6=high 7=sayings 8=rules 9=turn 10=p 11=others 12=saying 13=q -/
def n__law_rising : List Str := ["pool", "most", "fields", "base", "name", "low", "high", "sayings", "rules", "turn", "p", "others", "saying", "q"]
def p__law_rising : List Str := ["pool", "most"]
def il__law_rising : Ss := (.cons (.asg (.nm 2) (.call 7 (.lend 0 (.cons (.fz (.call 17 (.lend 0 (.cons (.cp 1) .nil)))) .nil)))) (.cons (.asg (.nm 3) (.bi .tuple (.tmp (.lc [4, 5, 6] (.seq (.var 2)) (.tp [(.nm 4), (.nm 5), (.nm 6)]) .no (.op .add (.cp 5) (.call 6 (.lend 0 (.cons (.op .add (.op .sub (.cp 6) (.cp 5)) (.int 1)) .nil)))))))) (.cons (.asg (.nm 7) (.call 8 (.cons (.cp 2) .nil))) (.cons (.frz 7) (.cons (.asg (.nm 8) (.lst .nil)) (.cons (.forr (.nm 9) (.rng1 (.op .mul (.call 6 (.lend 0 (.cons (.int 13) .nil))) (.bi .int (.tmp (.cmp .gt (.tmp (.bi .len (.var 7))) (.tmp (.int 0))))))) (.cons (.asg (.nm 10) (.idx (.var 7) (.call 6 (.lend 0 (.cons (.bi .len (.var 7)) .nil))))) (.cons (.asg (.nm 11) (.lc [12] (.seq (.var 7)) (.nm 12) (.so (.cmp .ne (.tmp (.idx (.var 12) (.int 1))) (.tmp (.idx (.var 10) (.int 1))))) (.cp 12))) (.cons (.asg (.nm 13) (.idx (.var 11) (.call 6 (.lend 0 (.cons (.bi .len (.var 11)) .nil))))) (.cons (.iff (.cmp .eq (.tmp (.call 6 (.lend 0 (.cons (.int 8) .nil)))) (.tmp (.int 0))) (.cons (.asg (.nm 13) (.cp 10)) .nil) .nil) (.cons (.iff (.and (.not (.val (.tmp (.call 9 (.cons (.cp 10) (.cons (.idx (.var 3) (.idx (.var 10) (.int 0))) .nil)))))) (.not (.val (.tmp (.call 9 (.cons (.cp 13) (.cons (.idx (.var 3) (.idx (.var 13) (.int 0))) .nil))))))) (.cons (.asg (.nm 10) (.call 10 (.cons (.cp 10) .nil))) (.cons (.asg (.nm 13) (.call 10 (.cons (.cp 13) .nil))) .nil)) .nil) (.cons (.app 8 (.tup (.cons (.mm false (.cp 10) (.cp 13)) (.cons (.mm true (.cp 10) (.cp 13)) .nil)))) (.cons (.kill [9, 10, 11, 13]) .nil)))))))) (.cons (.ret (.lst (.cons (.tup (.cons (.cp 2) (.cons (.bi .tuple (.tmp (.sset (.var 8)))) .nil))) (.cons (.cp 3) .nil)))) .nil)))))))
theorem ck__law_rising : cSs 200 ⟨n__law_rising, defScope (top 24), defScope (top 24), fs.take 21, ioIx [true, false]⟩ il__law_rising (defBody (top 24)) = true := by decide +kernel
theorem sc__law_rising : FnScope n__law_rising p__law_rising (defScope (top 24)) := ⟨rfl, rfl, rfl, by decide +kernel, rfl, by decide +kernel, by decide +kernel⟩
/-- 22: _law_far 0=sheets 1=sheet 2=total 3=other 4=f -/
def n__law_far : List Str := ["sheets", "sheet", "total", "other", "f"]
def p__law_far : List Str := ["sheets", "sheet"]
def il__law_far : Ss := (.cons (.asg (.nm 2) (.int 0)) (.cons (.forr (.nm 3) (.seq (.var 0)) (.cons (.forr (.nm 4) (.rng1 (.bi .len (.var 1))) (.cons (.asg (.nm 2) (.op .add (.cp 2) (.bi .abs (.tmp (.op .sub (.idx (.var 3) (.cp 4)) (.idx (.var 1) (.cp 4))))))) (.cons (.kill [4]) .nil))) (.cons (.kill [3, 4]) .nil))) (.cons (.ret (.cp 2)) .nil)))
theorem ck__law_far : cSs 200 ⟨n__law_far, defScope (top 25), defScope (top 25), fs.take 22, ioIx [false, false]⟩ il__law_far (defBody (top 25)) = true := by decide +kernel
theorem sc__law_far : FnScope n__law_far p__law_far (defScope (top 25)) := ⟨rfl, rfl, rfl, by decide +kernel, rfl, by decide +kernel, by decide +kernel⟩
/-- 23: _law_rank 0=sheets 1=many 2=sheet 3=f -/
def n__law_rank : List Str := ["sheets", "many", "sheet", "f"]
def p__law_rank : List Str := ["sheets", "many"]
def il__law_rank : Ss := (.cons (.ret (.bi .tuple (.tmp (.lc [3] (.rng1 (.bi .len (.tmp (.idx (.var 0) (.int 0))))) (.nm 3) .no (.idx (.tmp (.bi .sorted (.tmp (.lc [2] (.seq (.var 0)) (.nm 2) .no (.idx (.var 2) (.cp 3)))))) (.cp 1)))))) .nil)
theorem ck__law_rank : cSs 200 ⟨n__law_rank, defScope (top 26), defScope (top 26), fs.take 23, ioIx [false, false]⟩ il__law_rank (defBody (top 26)) = true := by decide +kernel
theorem sc__law_rank : FnScope n__law_rank p__law_rank (defScope (top 26)) := ⟨rfl, rfl, rfl, by decide +kernel, rfl, by decide +kernel, by decide +kernel⟩
/-- 24: _law_centre 0=sheets 1=odd -/
def n__law_centre : List Str := ["sheets", "odd"]
def p__law_centre : List Str := ["sheets"]
def il__law_centre : Ss := (.cons (.asg (.nm 1) (.sl (.var 0) .no (.so (.op .add (.op .sub (.bi .len (.var 0)) (.int 1)) (.op .mod (.bi .int (.tmp (.bi .len (.var 0)))) (.int 2)))))) (.cons (.ret (.call 23 (.cons (.cp 1) (.cons (.op .fdiv (.op .sub (.bi .len (.var 1)) (.int 1)) (.int 2)) .nil)))) .nil))
theorem ck__law_centre : cSs 200 ⟨n__law_centre, defScope (top 27), defScope (top 27), fs.take 24, ioIx [false]⟩ il__law_centre (defBody (top 27)) = true := by decide +kernel
theorem sc__law_centre : FnScope n__law_centre p__law_centre (defScope (top 27)) := ⟨rfl, rfl, rfl, by decide +kernel, rfl, by decide +kernel, by decide +kernel⟩
/-- 25: _law_weighted 0=sheets 1=weights 2=found 3=f 4=best 5=sheet 6=up 7=at -/
def n__law_weighted : List Str := ["sheets", "weights", "found", "f", "best", "sheet", "up", "at"]
def p__law_weighted : List Str := ["sheets", "weights"]
def il__law_weighted : Ss := (.cons (.asg (.nm 2) (.lst .nil)) (.cons (.forr (.nm 3) (.rng1 (.bi .len (.tmp (.idx (.var 0) (.int 0))))) (.cons (.asg (.nm 4) .non) (.cons (.forr (.nm 5) (.seq (.var 0)) (.cons (.asg (.nm 6) (.bi .sum (.tmp (.lc [7] (.rng1 (.bi .len (.var 0))) (.nm 7) (.so (.cmp .le (.tmp (.idx (.tmp (.idx (.var 0) (.cp 7))) (.cp 3))) (.tmp (.idx (.var 5) (.cp 3))))) (.idx (.var 1) (.cp 7)))))) (.cons (.iff (.and (.cmp .gt (.tmp (.op .mul (.int 2) (.cp 6))) (.tmp (.bi .sum (.var 1)))) (.or (.cmp .is (.var 4) (.tmp .non)) (.cmp .lt (.tmp (.idx (.var 5) (.cp 3))) (.var 4)))) (.cons (.asg (.nm 4) (.idx (.var 5) (.cp 3))) .nil) .nil) (.cons (.kill [5, 6]) .nil)))) (.cons (.app 2 (.cp 4)) (.cons (.kill [3, 4, 5, 6]) .nil))))) (.cons (.ret (.bi .tuple (.var 2))) .nil)))
theorem ck__law_weighted : cSs 200 ⟨n__law_weighted, defScope (top 28), defScope (top 28), fs.take 25, ioIx [false, false]⟩ il__law_weighted (defBody (top 28)) = true := by decide +kernel
theorem sc__law_weighted : FnScope n__law_weighted p__law_weighted (defScope (top 28)) := ⟨rfl, rfl, rfl, by decide +kernel, rfl, by decide +kernel, by decide +kernel⟩
/-- 26: _law_weights 0=pool 1=many 2=high 3=weights 4=turn 5=at -/
def n__law_weights : List Str := ["pool", "many", "high", "weights", "turn", "at"]
def p__law_weights : List Str := ["pool", "many"]
def il__law_weights : Ss := (.cons (.asg (.nm 2) (.idx (.tmp (.tup (.cons (.int 1) (.cons (.int 3) (.cons (.int 9) (.cons (.op .sub (.op .pow (.int 10) (.int 6)) (.int 1)) .nil)))))) (.call 6 (.lend 0 (.cons (.int 4) .nil))))) (.cons (.asg (.nm 3) (.lc [4] (.rng1 (.cp 1)) (.nm 4) .no (.op .add (.int 1) (.op .mod (.bi .int (.tmp (.op .mul (.call 6 (.lend 0 (.cons (.int 6930) .nil))) (.int 163)))) (.cp 2))))) (.cons (.iff (.cmp .eq (.tmp (.op .mod (.bi .int (.tmp (.bi .sum (.var 3)))) (.int 2))) (.tmp (.int 0))) (.cons (.asg (.nm 5) (.call 6 (.lend 0 (.cons (.cp 1) .nil)))) (.cons (.setIx 3 (.cp 5) (.op .add (.idx (.var 3) (.cp 5)) (.int 1))) .nil)) .nil) (.cons (.kill [5]) (.cons (.ret (.bi .tuple (.var 3))) .nil)))))
theorem ck__law_weights : cSs 200 ⟨n__law_weights, defScope (top 29), defScope (top 29), fs.take 26, ioIx [true, false]⟩ il__law_weights (defBody (top 29)) = true := by decide +kernel
theorem sc__law_weights : FnScope n__law_weights p__law_weights (defScope (top 29)) := ⟨rfl, rfl, rfl, by decide +kernel, rfl, by decide +kernel, by decide +kernel⟩
/-- 27: _law_asks 0=pool 1=sheets 2=ranks 3=many 4=weights 5=heavy 6=turn 7=place 8=other -/
def n__law_asks : List Str := ["pool", "sheets", "ranks", "many", "weights", "heavy", "turn", "place", "other"]
def p__law_asks : List Str := ["pool", "sheets", "ranks"]
def il__law_asks : Ss := (.cons (.asg (.nm 3) (.bi .len (.var 1))) (.cons (.asg (.nm 4) (.call 26 (.lend 0 (.cons (.cp 3) .nil)))) (.cons (.iff (.not (.val (.tmp (.call 20 (.cons (.call 1 (.cons (.cp 1) .nil)) (.cons (.call 24 (.cons (.cp 1) .nil)) .nil)))))) (.cons (.ret (.bl false)) .nil) .nil) (.cons (.iff (.not (.val (.tmp (.call 20 (.cons (.call 4 (.cons (.cp 1) (.cons (.cp 4) .nil))) (.cons (.call 25 (.cons (.cp 1) (.cons (.cp 4) .nil))) .nil)))))) (.cons (.ret (.bl false)) .nil) .nil) (.cons (.asg (.nm 5) (.op .mul (.lst (.cons (.int 1) .nil)) (.cp 3))) (.cons (.setIx 5 (.call 6 (.lend 0 (.cons (.cp 3) .nil))) (.op .add (.cp 3) (.op .mod (.bi .int (.tmp (.op .add (.cp 3) (.int 1)))) (.int 2)))) (.cons (.frz 5) (.cons (.iff (.cmp .eq (.tmp (.op .mod (.bi .int (.tmp (.bi .sum (.var 5)))) (.int 2))) (.tmp (.int 1))) (.cons (.iff (.not (.val (.tmp (.call 20 (.cons (.call 4 (.cons (.cp 1) (.cons (.bi .tuple (.var 5)) .nil))) (.cons (.call 25 (.cons (.cp 1) (.cons (.cp 5) .nil))) .nil)))))) (.cons (.ret (.bl false)) .nil) .nil) .nil) .nil) (.cons (.forr (.nm 6) (.rng1 (.mm false (.cp 2) (.cp 3))) (.cons (.asg (.nm 7) (.op .mod (.bi .int (.var 6)) (.cp 3))) (.cons (.iff (.cmp .lt (.var 2) (.var 3)) (.cons (.asg (.nm 7) (.call 6 (.lend 0 (.cons (.cp 3) .nil)))) .nil) .nil) (.cons (.iff (.not (.val (.tmp (.call 20 (.cons (.call 2 (.cons (.cp 1) (.cons (.cp 7) .nil))) (.cons (.call 23 (.cons (.cp 1) (.cons (.cp 7) .nil))) .nil)))))) (.cons (.ret (.bl false)) .nil) .nil) (.cons (.kill [6, 7]) .nil))))) (.cons (.asg (.nm 8) (.idx (.var 1) (.call 6 (.lend 0 (.cons (.cp 3) .nil))))) (.cons (.ret (.call 20 (.cons (.call 0 (.cons (.cp 1) (.cons (.cp 8) .nil))) (.cons (.call 22 (.cons (.cp 1) (.cons (.cp 8) .nil))) .nil)))) .nil)))))))))))
theorem ck__law_asks : cSs 200 ⟨n__law_asks, defScope (top 30), defScope (top 30), fs.take 27, ioIx [true, false, false]⟩ il__law_asks (defBody (top 30)) = true := by decide +kernel
theorem sc__law_asks : FnScope n__law_asks p__law_asks (defScope (top 30)) := ⟨rfl, rfl, rfl, by decide +kernel, rfl, by decide +kernel, by decide +kernel⟩
/-- 28: _law_among 0=rows 1=told 2=sheet -/
def n__law_among : List Str := ["rows", "told", "sheet"]
def p__law_among : List Str := ["rows", "told"]
def il__law_among : Ss := (.cons (.forr (.nm 2) (.seq (.var 0)) (.cons (.iff (.val (.tmp (.call 20 (.cons (.cp 1) (.cons (.cp 2) .nil))))) (.cons (.ret (.bl true)) .nil) .nil) (.cons (.kill [2]) .nil))) (.cons (.ret (.bl false)) .nil))
theorem ck__law_among : cSs 200 ⟨n__law_among, defScope (top 31), defScope (top 31), fs.take 28, ioIx [false, false]⟩ il__law_among (defBody (top 31)) = true := by decide +kernel
theorem sc__law_among : FnScope n__law_among p__law_among (defScope (top 31)) := ⟨rfl, rfl, rfl, by decide +kernel, rfl, by decide +kernel, by decide +kernel⟩
/-- 29: _law_scene 0=pool 1=drawn 2=rises 3=form 4=rows 5=goods 6=sheet 7=sheets 8=turn 9=centre 10=least -/
def n__law_scene : List Str := ["pool", "drawn", "rises", "form", "rows", "goods", "sheet", "sheets", "turn", "centre", "least"]
def p__law_scene : List Str := ["pool", "drawn", "rises"]
def il__law_scene : Ss := (.cons (.asg (.nm 3) (.idx (.var 1) (.int 0))) (.cons (.asg (.nm 4) (.call 14 (.cons (.idx (.var 3) (.int 0)) .nil))) (.cons (.frz 4) (.cons (.asg (.nm 5) (.lc [6] (.seq (.var 4)) (.nm 6) (.so (.val (.tmp (.call 13 (.cons (.idx (.var 3) (.int 1)) (.cons (.cp 6) .nil)))))) (.cp 6))) (.cons (.frz 5) (.cons (.asg (.nm 7) (.bi .tuple (.tmp (.lc [8] (.rng1 (.op .add (.int 1) (.call 6 (.lend 0 (.cons (.int 9) .nil))))) (.nm 8) .no (.idx (.var 5) (.call 6 (.lend 0 (.cons (.bi .len (.var 5)) .nil)))))))) (.cons (.iff (.not (.val (.tmp (.call 27 (.lend 0 (.cons (.cp 7) (.cons (.int 9) .nil))))))) (.cons (.ret (.bl false)) .nil) .nil) (.cons (.asg (.nm 9) (.call 1 (.cons (.cp 7) .nil))) (.cons (.iff (.or (.not (.val (.tmp (.call 28 (.cons (.cp 5) (.cons (.cp 9) .nil)))))) (.not (.val (.tmp (.call 28 (.cons (.cp 5) (.cons (.call 4 (.cons (.cp 7) (.cons (.call 26 (.lend 0 (.cons (.bi .len (.var 7)) .nil))) .nil))) .nil))))))) (.cons (.ret (.bl false)) .nil) .nil) (.cons (.iff (.and (.val (.var 2)) (.not (.val (.tmp (.call 28 (.cons (.cp 5) (.cons (.call 2 (.cons (.cp 7) (.cons (.call 6 (.lend 0 (.cons (.bi .len (.var 7)) .nil))) .nil))) .nil))))))) (.cons (.ret (.bl false)) .nil) .nil) (.cons (.asg (.nm 10) (.mml false (.tmp (.lc [6] (.seq (.var 4)) (.nm 6) .no (.call 22 (.cons (.cp 7) (.cons (.cp 6) .nil))))))) (.cons (.iff (.cmp .ne (.tmp (.call 22 (.cons (.cp 7) (.cons (.cp 9) .nil)))) (.var 10)) (.cons (.ret (.bl false)) .nil) .nil) (.cons (.ret (.call 20 (.cons (.call 0 (.cons (.cp 7) (.cons (.cp 9) .nil))) (.cons (.cp 10) .nil)))) .nil)))))))))))))
theorem ck__law_scene : cSs 200 ⟨n__law_scene, defScope (top 32), defScope (top 32), fs.take 29, ioIx [true, false, false]⟩ il__law_scene (defBody (top 32)) = true := by decide +kernel
theorem sc__law_scene : FnScope n__law_scene p__law_scene (defScope (top 32)) := ⟨rfl, rfl, rfl, by decide +kernel, rfl, by decide +kernel, by decide +kernel⟩
/-- 30: _law_wide 0=pool 1=fields 2=turn 3=sheets 4=name 5=low 6=high -/
def n__law_wide : List Str := ["pool", "fields", "turn", "sheets", "name", "low", "high"]
def p__law_wide : List Str := ["pool"]
def il__law_wide : Ss := (.cons (.asg (.nm 1) (.call 7 (.lend 0 (.cons (.fz (.lc [2] (.rng1 (.int 12)) (.nm 2) .no (.op .sub (.int 20) (.call 6 (.lend 0 (.cons (.int 3) .nil)))))) .nil)))) (.cons (.asg (.nm 3) (.lst .nil)) (.cons (.kill [2]) (.cons (.forr (.nm 2) (.rng1 (.op .add (.int 36) (.call 6 (.lend 0 (.cons (.int 5) .nil))))) (.cons (.app 3 (.bi .tuple (.tmp (.lc [4, 5, 6] (.seq (.var 1)) (.tp [(.nm 4), (.nm 5), (.nm 6)]) .no (.op .add (.cp 5) (.call 6 (.lend 0 (.cons (.op .add (.op .sub (.cp 6) (.cp 5)) (.int 1)) .nil)))))))) (.cons (.kill [2]) .nil))) (.cons (.ret (.call 27 (.lend 0 (.cons (.bi .tuple (.var 3)) (.cons (.int 3) .nil))))) .nil)))))
theorem ck__law_wide : cSs 200 ⟨n__law_wide, defScope (top 33), defScope (top 33), fs.take 30, ioIx [true]⟩ il__law_wide (defBody (top 33)) = true := by decide +kernel
theorem sc__law_wide : FnScope n__law_wide p__law_wide (defScope (top 33)) := ⟨rfl, rfl, rfl, by decide +kernel, rfl, by decide +kernel, by decide +kernel⟩
/-- 31: law 0=script 1=pool 2=turn 3=fields 4=sheets 5=name 6=low 7=high -/
def n_law : List Str := ["script", "pool", "turn", "fields", "sheets", "name", "low", "high"]
def p_law : List Str := ["script"]
def il_law : Ss := (.cons (.asg (.nm 1) (.call 5 (.cons (.cp 0) .nil))) (.cons (.forr (.nm 2) (.rng1 (.int 4)) (.cons (.iff (.or (.not (.val (.tmp (.call 29 (.lend 1 (.cons (.fz (.call 18 (.lend 1 (.cons (.int 128) (.cons (.int 12) .nil))))) (.cons (.bl false) .nil))))))) (.not (.val (.tmp (.call 29 (.lend 1 (.cons (.fz (.call 21 (.lend 1 (.cons (.int 128) .nil)))) (.cons (.bl true) .nil)))))))) (.cons (.ret (.bl false)) .nil) .nil) (.cons (.kill [2]) .nil))) (.cons (.asg (.nm 3) (.call 7 (.lend 1 (.cons (.fz (.lc [2] (.rng1 (.op .add (.int 1) (.call 6 (.lend 1 (.cons (.int 12) .nil))))) (.nm 2) .no (.op .add (.int 1) (.call 6 (.lend 1 (.cons (.int 20) .nil)))))) .nil)))) (.cons (.asg (.nm 4) (.lst .nil)) (.cons (.kill [2]) (.cons (.forr (.nm 2) (.rng1 (.op .add (.int 1) (.call 6 (.lend 1 (.cons (.int 12) .nil))))) (.cons (.app 4 (.bi .tuple (.tmp (.lc [5, 6, 7] (.seq (.var 3)) (.tp [(.nm 5), (.nm 6), (.nm 7)]) .no (.op .add (.cp 6) (.call 6 (.lend 1 (.cons (.op .add (.op .sub (.cp 7) (.cp 6)) (.int 1)) .nil)))))))) (.cons (.kill [2]) .nil))) (.cons (.iff (.not (.val (.tmp (.call 27 (.lend 1 (.cons (.bi .tuple (.var 4)) (.cons (.int 12) .nil))))))) (.cons (.ret (.bl false)) .nil) .nil) (.cons (.ret (.or (.cmp .gt (.tmp (.call 6 (.lend 1 (.cons (.int 7) .nil)))) (.tmp (.int 0))) (.call 30 (.lend 1 .nil)))) .nil))))))))
theorem ck_law : cSs 200 ⟨n_law, defScope (top 34), defScope (top 34), fs.take 31, ioIx [false]⟩ il_law (defBody (top 34)) = true := by decide +kernel
theorem sc_law : FnScope n_law p_law (defScope (top 34)) := ⟨rfl, rfl, rfl, by decide +kernel, rfl, by decide +kernel, by decide +kernel⟩
end K84

end
set_option maxHeartbeats 1000000
namespace K84
open PL
open PySem (Str sizeLine)
local macro_rules | `(tactic| walk_at "pl_isf1") => `(tactic| first | with_reducible assumption | with_reducible exact isF_int | with_reducible exact isF_bl | with_reducible exact isF_str | with_reducible exact isF_non | with_reducible exact isFs_nil | with_reducible apply isFs_cons | with_reducible apply isF_tup | with_reducible apply isF_lst | with_reducible apply isFs_app | with_reducible exact fz_isF _ | with_reducible exact fzs_isF _ | with_reducible exact isFs_map (fun _ => rfl))
local macro_rules | `(tactic| walk_at "pl_isf") => `(tactic| repeat' walk_at "pl_isf1")
local macro_rules | `(tactic| walk_at "pl_vF") => `(tactic| (focus (walk_at "pl_isf"; done)))
local macro_rules | `(tactic| walk_at "pl_vL") => `(tactic| (focus (first | with_reducible assumption | (simp only [List.length_cons, List.length_nil, List.length_append]; decide) | decide)))
local macro_rules | `(tactic| walk_at "pl_vM") => `(tactic| (focus (first | with_reducible assumption | exact .inl (.inl ⟨by omega, by omega⟩) | exact .inl (.inr ⟨by omega, by omega⟩) | exact ⟨by omega, by omega, by decide⟩)))
local macro_rules | `(tactic| walk_at "pl_vD") => `(tactic| (focus (first | with_reducible assumption | omega | exact ⟨by omega, by omega⟩)))
local macro_rules | `(tactic| walk_at "pl_vR") => `(tactic| (focus (first | with_reducible assumption | exact rfl)))
local macro_rules | `(tactic| walk_at "pl_vI") => `(tactic| first | with_reducible assumption | exact rfl)
local macro_rules | `(tactic| walk_at "pl_vA") => `(tactic| (focus (simp only [argsF, Bool.and_eq_true, Bool.and_true]; repeat' (first | with_reducible apply And.intro | walk_at "pl_isf1"))))
local macro_rules | `(tactic| walk_at "pl_vc1") => `(tactic| first
  | ((with_reducible apply g_wpE); first
    | with_reducible apply w_non
    | with_reducible apply w_bl
    | with_reducible apply w_int
    | with_reducible apply w_str
    | with_reducible apply w_fz
    | with_reducible apply w_tup
    | with_reducible apply w_lst
    | with_reducible apply w_dic0
    | with_reducible apply w_op
    | with_reducible apply w_neg
    | with_reducible apply w_and
    | with_reducible apply w_or
    | with_reducible apply w_nott
    | with_reducible apply w_cmp
    | with_reducible apply w_chain
    | with_reducible apply w_ifx
    | with_reducible apply w_idx
    | with_reducible apply w_sl
    | with_reducible apply w_bi
    | with_reducible apply w_sset
    | with_reducible apply w_szip
    | with_reducible apply w_mml
    | with_reducible apply w_mm
    | with_reducible apply w_lrg
    | with_reducible apply w_isi
    | with_reducible apply w_lc
    | with_reducible apply w_lc2
    | ((with_reducible apply w_cp); exact rfl; walk_at "pl_vF")
    | ((with_reducible apply w_take); exact rfl; simp only [List.set_cons_zero, List.set_cons_succ])
    | ((with_reducible apply w_call); (focus assumption); exact rfl))
  | with_reducible apply w_tmp
  | ((with_reducible apply w_var); exact rfl)
  | with_reducible apply k_lookT
  | ((with_reducible apply k_lookV); exact rfl)
  | with_reducible apply w_nil
  | with_reducible apply w_cons
  | ((with_reducible apply g_wpSs); first
    | with_reducible apply s_cons
    | with_reducible apply s_nil)
  | ((with_reducible apply g_wpS); first
    | with_reducible apply s_asg
    | with_reducible apply s_ret
    | with_reducible apply s_retN
    | with_reducible apply s_iff
    | with_reducible apply s_brk
    | with_reducible apply s_cnt
    | with_reducible apply s_pas
    | with_reducible apply s_ex
    | with_reducible apply s_setIx
    | with_reducible apply s_forr
    | ((with_reducible apply s_kill); simp only [wipeE, List.set_cons_zero, List.set_cons_succ])
    | ((with_reducible apply s_frz); exact rfl; simp only [List.set_cons_zero, List.set_cons_succ])
    | ((with_reducible apply s_app); exact rfl)
    | ((with_reducible apply s_ext); exact rfl)
    | ((with_reducible apply s_aug); exact rfl; walk_at "pl_vF"))
  | ((with_reducible apply g_kIf); first
    | with_reducible apply k_ifT
    | with_reducible apply k_ifF
    | with_reducible apply k_ifnT
    | with_reducible apply k_ifnF)
  | ((with_reducible apply g_wpC); first
    | with_reducible apply c_val
    | with_reducible apply c_and
    | with_reducible apply c_or
    | with_reducible apply c_not
    | with_reducible apply c_cmp
    | with_reducible apply c_chain)
  | ((with_reducible apply g_rlP); first
    | with_reducible apply r_ltI
    | with_reducible apply r_leI
    | with_reducible apply r_gtI
    | with_reducible apply r_geI
    | with_reducible apply r_eqI
    | with_reducible apply r_neI
    | with_reducible apply r_isN
    | with_reducible apply r_isnN
    | with_reducible apply r_isB
    | with_reducible apply r_isnB
    | ((with_reducible apply r_inT); walk_at "pl_vR"; walk_at "pl_vR")
    | ((with_reducible apply r_ninT); walk_at "pl_vR"; walk_at "pl_vR")
    | ((with_reducible apply r_eqS); walk_at "pl_vR"; walk_at "pl_vR")
    | ((with_reducible apply r_neS); walk_at "pl_vR"; walk_at "pl_vR"))
  | ((with_reducible apply g_opP); first
    | with_reducible apply o_addI
    | with_reducible apply o_sub
    | ((with_reducible apply o_mul); walk_at "pl_vM")
    | ((with_reducible apply o_fdiv); walk_at "pl_vD")
    | ((with_reducible apply o_mod); walk_at "pl_vD")
    | ((with_reducible apply o_pow); walk_at "pl_vM")
    | ((with_reducible apply o_addT); walk_at "pl_vF"; walk_at "pl_vF"; walk_at "pl_vL")
    | ((with_reducible apply o_addL); walk_at "pl_vF"; walk_at "pl_vF"; walk_at "pl_vL"))
  | ((with_reducible apply g_biP); first
    | with_reducible apply b_lenT
    | with_reducible apply b_lenL
    | with_reducible apply b_intI
    | with_reducible apply b_intB
    | with_reducible apply b_abs
    | ((with_reducible apply b_lenI); exact rfl)
    | ((with_reducible apply b_listT); walk_at "pl_vF")
    | ((with_reducible apply b_listL); walk_at "pl_vF")
    | ((with_reducible apply b_tupT); walk_at "pl_vF")
    | ((with_reducible apply b_tupL); walk_at "pl_vF"))
  | ((with_reducible apply g_wpI); first
    | with_reducible apply i_seq
    | with_reducible apply i_zips
    | with_reducible apply i_rng1
    | with_reducible apply i_rng2
    | with_reducible apply i_enum
    | with_reducible apply i_zip2
    | with_reducible apply i_zip3)
  | ((with_reducible apply g_kHold); first
    | ((with_reducible apply k_holdT); exact rfl; walk_at "pl_vF")
    | ((with_reducible apply k_holdO); walk_at "pl_vF"; simp only [List.set_cons_zero, List.set_cons_succ])
    | ((with_reducible apply k_holdV); exact rfl; walk_at "pl_vF"; walk_at "pl_vF"; simp only [List.set_cons_zero, List.set_cons_succ]))
  | with_reducible apply w_no
  | with_reducible apply w_so
  | with_reducible apply oc_no
  | with_reducible apply oc_so
  | ((with_reducible apply g_slP); first
    | with_reducible apply l_scr
    | ((with_reducible apply l_tup); walk_at "pl_vF")
    | ((with_reducible apply l_lst); walk_at "pl_vF"))
  | ((with_reducible apply a_addI); simp only [List.set_cons_zero, List.set_cons_succ])
  | ((with_reducible apply a_subI); simp only [List.set_cons_zero, List.set_cons_succ])
  | with_reducible apply k_bl
  | with_reducible apply k_int
  | with_reducible apply m_I
  | ((with_reducible apply k_len); walk_at "pl_vL")
  | ((with_reducible apply k_tru); exact rfl)
  | ((with_reducible apply k_args); walk_at "pl_vA")
  | ((with_reducible apply k_cap); exact trivial)
  | ((with_reducible apply k_app); exact rfl; walk_at "pl_vL"; simp only [List.set_cons_zero, List.set_cons_succ, List.nil_append, List.cons_append])
  | ((with_reducible apply k_ext); exact rfl; exact rfl; walk_at "pl_vF"; walk_at "pl_vL"; simp only [List.set_cons_zero, List.set_cons_succ, List.nil_append, List.cons_append])
  | ((with_reducible apply k_io); exact rfl)
  | ((with_reducible apply k_idx); (focus walk_at "pl_vI"); walk_at "pl_vF")
  | ((with_reducible apply k_items); exact rfl; walk_at "pl_vF")
  | ((with_reducible apply k_bind); exact rfl; simp only [List.set_cons_zero, List.set_cons_succ])
  | ((with_reducible apply ch_and); walk_at "pl_vF"))
local macro_rules | `(tactic| walk_at "pl_vc") => `(tactic| repeat' walk_at "pl_vc1")
local macro_rules | `(tactic| walk_at "pl_vs") => `(tactic| repeat' (first | walk_at "pl_vc1" | ((with_reducible apply g_kIf); first | (with_reducible refine k_ifD (fun _ => ?_) (fun _ => ?_)) | (with_reducible refine k_ifN (fun _ => ?_) (fun _ => ?_)) | (with_reducible refine k_if (fun _ => ?_) (fun _ => ?_)))))
/-! k84: tools; values; the pool. -/
/-- two lists, item by item -/
def Rel2 (R : T → T → Prop) (xs ys : List T) : Prop := ys.length = xs.length ∧ ∀ (i : Nat) x y, xs[i]? = some x → ys[i]? = some y → R x y
theorem Rel2.nil {R : T → T → Prop} : Rel2 R [] [] := ⟨rfl, fun i x y h => by simp at h⟩
theorem Rel2.cons {R : T → T → Prop} {x y : T} {xs ys : List T} (h : R x y) (t : Rel2 R xs ys) : Rel2 R (x :: xs) (y :: ys) := by
  refine ⟨by simp [t.1], fun i a b h1 h2 => ?_⟩
  cases i with
  | zero => simp at h1 h2; subst h1; subst h2; exact h
  | succ i => simp at h1 h2; exact t.2 i a b h1 h2
theorem lc_any {own : List Nat} {step : T → Env → (Option T → Env → Prop) → Prop} {xs : List T} {Γ0 : Env} (R : T → T → Prop) (K : List T → Env → Prop)
    (hs : ∀ x ∈ xs, ∀ (Kk : Option T → Env → Prop), (∀ y Γ', R x y → wipeE own Γ' = wipeE own Γ0 → Kk (some y) Γ') → step x (wipeE own Γ0) Kk) : ∀ (Γ : Env) (acc : List T), wipeE own Γ = wipeE own Γ0 → (∀ ys Γ', Rel2 R xs ys → wipeE own Γ' = wipeE own Γ0 → K (acc ++ ys) Γ') → lcLoop own step xs Γ acc K := by
  induction xs with
  | nil =>
    intro Γ acc e k
    simp only [lcLoop]
    simpa using k [] Γ .nil e
  | cons x xs ih =>
    intro Γ acc e k
    simp only [lcLoop]
    rw [e]
    refine hs x List.mem_cons_self _ fun y Γ' r e' => ?_
    refine ih (fun y hy => hs y (List.mem_cons_of_mem _ hy)) (wipeE own Γ') _ (by rw [wipeE_twice, e']) fun ys Γ2 r2 e2 => ?_
    have := k (y :: ys) Γ2 (.cons r r2) e2
    simpa using this
theorem k_lcR {Φ : Nat → Spec} {Γ : Env} {Q : T → Env → Prop} {own : List Nat} {g : G} {c : Oc} {e : E} {xs : List T} (R : T → T → Prop) (hs : ∀ x ∈ xs, ∀ (Kk : Option T → Env → Prop), (∀ y Γ', R x y → wipeE own Γ' = wipeE own Γ → Kk (some y) Γ') → kTurn Φ g c e x (wipeE own Γ) Kk) (k : ∀ ys, Rel2 R xs ys → Q (.lst true ys) (backE own Γ Γ)) : kLc Φ own g c e xs Γ Q := by
  refine lc_any R _ hs Γ [] rfl fun ys Γ' r e' => ?_
  rw [backE_eq e']
  exact k ys r
/-- what both ways of a test hand on -/
theorem s_join {Φ : Nat → Spec} {s : S} {nx : Env → Prop} {rt : T → Env → Prop} {bk ct : Env → Prop} {Γ : Env} (J : Env → Prop) (h : ∀ nx' : Env → Prop, (∀ Γ', J Γ' → nx' Γ') → wpS Φ s ⟨nx', rt, bk, ct⟩ Γ) (k : ∀ Γ', J Γ' → nx Γ') : wpS Φ s ⟨nx, rt, bk, ct⟩ Γ := h nx k
theorem k_tyT {ty : Ty} {x : T} {A B : Prop} (h : isTy ty x = true) (k : A) : kIf (isTy ty x) A B := k_if (fun _ => k) fun e => by rw [h] at e; cases e
theorem k_tyF {ty : Ty} {x : T} {A B : Prop} (h : isTy ty x = false) (k : B) : kIf (isTy ty x) A B := k_if (fun e => by rw [h] at e; cases e) fun _ => k
theorem k_ntyT {ty : Ty} {x : T} {A B : Prop} (h : isTy ty x = true) (k : B) : kIf (!isTy ty x) A B := k_if (fun e => by rw [h] at e; cases e) fun _ => k
theorem k_ntyF {ty : Ty} {x : T} {A B : Prop} (h : isTy ty x = false) (k : A) : kIf (!isTy ty x) A B := k_if (fun _ => k) fun e => by rw [h] at e; cases e
theorem k_dT {p : Prop} [Decidable p] {A B : Prop} (h : p) (k : A) : kIf (decide p) A B := k_ifD (fun _ => k) fun e => absurd h e
theorem k_dF {p : Prop} [Decidable p] {A B : Prop} (h : ¬ p) (k : B) : kIf (decide p) A B := k_ifD (fun e => absurd e h) fun _ => k
theorem k_ndT {p : Prop} [Decidable p] {A B : Prop} (h : p) (k : B) : kIf (!decide p) A B := k_ifN (fun e => absurd h e) fun _ => k
theorem k_ndF {p : Prop} [Decidable p] {A B : Prop} (h : ¬ p) (k : A) : kIf (!decide p) A B := k_ifN (fun _ => k) fun e => absurd e h
theorem in_out : ¬ Str.ofString "in" = Str.ofString "out" := by decide +kernel
theorem out_in : ¬ Str.ofString "out" = Str.ofString "in" := by decide +kernel
theorem k_nonT {x : T} {A B : Prop} (h : isNon x = true) (k : A) : kIf (isNon x) A B := k_if (fun _ => k) fun e => by rw [h] at e; cases e
theorem k_nonF {x : T} {A B : Prop} (h : isNon x = false) (k : B) : kIf (isNon x) A B := k_if (fun e => by rw [h] at e; cases e) fun _ => k
theorem k_nnonT {x : T} {A B : Prop} (h : isNon x = true) (k : B) : kIf (!isNon x) A B := k_if (fun e => by rw [h] at e; cases e) fun _ => k
theorem k_nnonF {x : T} {A B : Prop} (h : isNon x = false) (k : A) : kIf (!isNon x) A B := k_if (fun _ => k) fun e => by rw [h] at e; cases e
theorem k_bqT {a b : Bool} {A B : Prop} (h : (a == b) = true) (k : A) : kIf (a == b) A B := k_if (fun _ => k) fun e => by rw [h] at e; cases e
theorem k_bqF {a b : Bool} {A B : Prop} (h : (a == b) = false) (k : B) : kIf (a == b) A B := k_if (fun e => by rw [h] at e; cases e) fun _ => k
theorem k_nbqT {a b : Bool} {A B : Prop} (h : (a == b) = true) (k : B) : kIf (!(a == b)) A B := k_if (fun e => by rw [h] at e; cases e) fun _ => k
theorem k_nbqF {a b : Bool} {A B : Prop} (h : (a == b) = false) (k : A) : kIf (!(a == b)) A B := k_if (fun _ => k) fun e => by rw [h] at e; cases e

/-! ### values -/
abbrev Sheet := List Int
abbrev Fld := Str × Int × Int
abbrev Say := Int × Int × Int
abbrev Rule := Say × Say
def sT (s : Sheet) : T := .tup (s.map .int)
def yT (y : Say) : T := .tup [.int y.1, .int y.2.1, .int y.2.2]
def fldT (f : Fld) : T := .tup [.str f.1, .int f.2.1, .int f.2.2]
def fsT (fs : List Fld) : T := .tup (fs.map fldT)
def ruT (r : Rule) : T := .tup [yT r.1, yT r.2]
def rsT (rs : List Rule) : T := .tup (rs.map ruT)
theorem isFs_map {α : Type} {g : α → T} (h : ∀ x, isF (g x) = true) : ∀ xs : List α, isFs (xs.map g) = true
  | [] => rfl
  | x :: xs => by simp [isFs, h x, isFs_map h xs]
theorem isF_sT {s : Sheet} : isF (sT s) = true := isF_tup (isFs_map (fun _ => rfl) s)
theorem isFs_ints {s : List Int} : isFs (s.map T.int) = true := isFs_map (fun _ => rfl) s
theorem isF_yT {y : Say} : isF (yT y) = true := rfl
theorem isF_fldT {f : Fld} : isF (fldT f) = true := rfl
theorem isF_fsT {fs : List Fld} : isF (fsT fs) = true := isF_tup (isFs_map (fun _ => rfl) fs)
theorem isF_ruT {r : Rule} : isF (ruT r) = true := rfl
theorem isF_rsT {rs : List Rule} : isF (rsT rs) = true := isF_tup (isFs_map (fun _ => rfl) rs)
local macro_rules | `(tactic| walk_at "pl_isf1") => `(tactic| first | with_reducible exact isF_sT | with_reducible exact isFs_ints | with_reducible exact isF_yT | with_reducible exact isF_fldT | with_reducible exact isF_fsT | with_reducible exact isF_ruT | with_reducible exact isF_rsT)
/-- the pool: state, place, what is left of the script -/
def Pool (p : List T) : Prop := ∃ (a k : Int) (r : List Int), p = .int a :: .int k :: r.map .int ∧ 0 ≤ a ∧ a < 2147483647 ∧ 2 ≤ k ∧ k ≤ r.length + 2 ∧ r.length ≤ 3780
def VC (Φ : Nat → Spec) (m : List Bool) (P : List T → (T → Prop) → Prop) (il : Ss) (n : Nat) : Prop := VCd Φ m (spF P) il n
/-- .. the pool lent first -/
def VP (Φ : Nat → Spec) (m : List Bool) (P : List T → (T → Prop) → Prop) (il : Ss) (n : Nat) : Prop := VCd Φ m (spL Pool P) il n
def P_pick (ts : List T) (K : T → Prop) : Prop := ∃ m : Int, ts = [.int m] ∧ 0 < m ∧ ∀ r : Int, 0 ≤ r → r < m → K (.int r)
theorem c_pick {m : Int} {K : T → Prop} (h : 0 < m) (k : ∀ r : Int, 0 ≤ r → r < m → K (.int r)) : P_pick [.int m] K := ⟨m, rfl, h, k⟩
def P_pool (ts : List T) (K : T → Prop) : Prop := ∃ ns : List Int, ts = [.scr ns] ∧ ∀ p, Pool p → K (.lst true p)
/-- the end of a def to which the pool was lent -/
theorem k_ioP {m : List Bool} {Q : List T → Prop} {p : List T} {Γ : Env} (hm : m.any id = true) (h : lnt m Γ = [some (.lst true p)]) (hl : m.length ≤ Γ.length) (k : Q [.lst true p]) : ioK m Q Γ := by
  unfold ioK
  rw [hm]
  exact ⟨[.lst true p], h, hl, k⟩
theorem at0 {α : Type} {x : α} {xs : List α} : L2.atI (x :: xs) 0 = some x := L2.atI_nat (j := 0) rfl
theorem at1 {α : Type} {x y : α} {xs : List α} : L2.atI (x :: y :: xs) 1 = some y := L2.atI_nat (j := 1) rfl
theorem at2 {α : Type} {x y z : α} {xs : List α} : L2.atI (x :: y :: z :: xs) 2 = some z := L2.atI_nat (j := 2) rfl
theorem set0 {n : Nat} : L2.ixN (n + 1) 0 = some 0 := by unfold L2.ixN; simp
theorem set1 {n : Nat} : L2.ixN (n + 2) 1 = some 1 := by unfold L2.ixN; simp; omega
theorem k_ix0 {o : Bool} {x : T} {xs : List T} {K : T → Prop} (f : isF x = true) (k : K x) : kIdx (.lst o (x :: xs)) (.int 0) K := k_idx (v := x) at0 f k
theorem k_ix1 {o : Bool} {x y : T} {xs : List T} {K : T → Prop} (f : isF y = true) (k : K y) : kIdx (.lst o (x :: y :: xs)) (.int 1) K := k_idx (v := y) at1 f k
theorem k_it0 {x : T} {xs : List T} {K : T → Prop} (f : isF x = true) (k : K x) : kIdx (.tup (x :: xs)) (.int 0) K := k_idx (v := x) at0 f k
theorem k_it1 {x y : T} {xs : List T} {K : T → Prop} (f : isF y = true) (k : K y) : kIdx (.tup (x :: y :: xs)) (.int 1) K := k_idx (v := y) at1 f k
theorem k_it2 {x y z : T} {xs : List T} {K : T → Prop} (f : isF z = true) (k : K z) : kIdx (.tup (x :: y :: z :: xs)) (.int 2) K := k_idx (v := z) at2 f k
theorem k_iy0 {y : Say} {K : T → Prop} (k : K (.int y.1)) : kIdx (yT y) (.int 0) K := k_it0 rfl k
theorem k_iy1 {y : Say} {K : T → Prop} (k : K (.int y.2.1)) : kIdx (yT y) (.int 1) K := k_it1 rfl k
theorem k_iy2 {y : Say} {K : T → Prop} (k : K (.int y.2.2)) : kIdx (yT y) (.int 2) K := k_it2 rfl k
local macro_rules | `(tactic| walk_at "pl_vc1") => `(tactic| first
  | ((with_reducible apply k_ix0); walk_at "pl_vF") | ((with_reducible apply k_ix1); walk_at "pl_vF") | ((with_reducible apply k_it0); walk_at "pl_vF") | ((with_reducible apply k_it1); walk_at "pl_vF") | ((with_reducible apply k_it2); walk_at "pl_vF")
  | with_reducible apply k_iy0 | with_reducible apply k_iy1 | with_reducible apply k_iy2)
theorem k_setU {i : Nat} {Γ : Env} {t : T} {B : Prop} (h : Γ[i]? = some (some t)) (k : B) : (∃ u, Γ[i]? = some (some u)) ∧ B := ⟨⟨t, h⟩, k⟩
theorem k_set0 {i : Nat} {t x : T} {xs : List T} {Γ : Env} {nx : Env → Prop} (f : isF t = true) (h : Γ[i]? = some (some (.lst true (x :: xs)))) (k : nx (Γ.set i (some (.lst true (t :: xs))))) : kSet i (.int 0) t Γ nx := k_setL (q := 0) f h set0 k
theorem k_set1 {i : Nat} {t x y : T} {xs : List T} {Γ : Env} {nx : Env → Prop} (f : isF t = true) (h : Γ[i]? = some (some (.lst true (x :: y :: xs)))) (k : nx (Γ.set i (some (.lst true (x :: t :: xs))))) : kSet i (.int 1) t Γ nx := k_setL (q := 1) f h set1 k
local macro_rules | `(tactic| walk_at "pl_vc1") => `(tactic| first
  | ((with_reducible apply k_setU); (focus exact rfl)) | ((with_reducible apply k_set0); walk_at "pl_vF"; (focus exact rfl); simp only [List.set_cons_zero, List.set_cons_succ]) | ((with_reducible apply k_set1); walk_at "pl_vF"; (focus exact rfl); simp only [List.set_cons_zero, List.set_cons_succ]))
theorem pool_at {a k : Int} {r : List Int} {j : Int} (h0 : 2 ≤ j) (h1 : j < r.length + 2) : ∃ i : Int, L2.atI (T.int a :: T.int k :: r.map T.int) j = some (.int i) := by
  obtain ⟨n, rfl⟩ : ∃ n : Nat, j = ((n + 2 : Nat) : Int) := ⟨(j - 2).toNat, by omega⟩
  have hn : n < r.length := by omega
  refine ⟨r[n], L2.atI_nat ?_⟩
  simp [hn]
section
variable {Φ : Nat → Spec}
theorem v_pick : VP Φ [true, false] P_pick il__law_pick 2 := by
  rintro ts Q - am ⟨p, rest, rfl, ⟨a, k, r, rfl, a0, a1, k0, k1, rl⟩, m, rfl, hm, q⟩
  show wpSs Φ il__law_pick _ [some _, some _]
  unfold il__law_pick
  walk_at "pl_vs"
  · rename_i h
    simp only [List.length_cons, List.length_map, Int.natCast_add] at h
    obtain ⟨i, hi⟩ := pool_at (a := a) (k := k + 1) (r := r) (j := k + 1 - 1) (by omega) (by omega)
    refine k_idx hi rfl ?_
    walk_at "pl_vs"
    show ioK [true, false] (Q _) [some (.lst true (.int a :: .int (k + 1) :: r.map .int)), some (.int m)]
    refine k_ioP rfl rfl (by simp) (q _ (Int.emod_nonneg _ (by omega)) (Int.emod_lt_of_pos _ hm) _ ⟨a, k + 1, r, rfl, a0, a1, by omega, by omega, rl⟩)
  · show ioK [true, false] (Q _) [some (.lst true (.int _ :: .int k :: r.map .int)), some (.int m)]
    exact k_ioP rfl rfl (by simp) (q _ (Int.emod_nonneg _ (by omega)) (Int.emod_lt_of_pos _ hm) _ ⟨_, k, r, rfl, Int.emod_nonneg _ (by omega), Int.emod_lt_of_pos _ (by omega), k0, k1, rl⟩)
end

/-! k84: the pool from the script. -/
theorem cut63 (ns : List Int) : ∃ ms : List Int, slP.cutV' (ns.map T.int) none (some 63) = ms.map T.int ∧ ms.length ≤ 63 := by
  unfold slP.cutV'
  rw [HT.sIx_none, List.drop_zero, show (some (63 : Int)) = some ((63 : Nat) : Int) from rfl, HT.sIx_nat, ← List.map_take]
  exact ⟨_, rfl, by rw [List.length_take]; omega⟩
theorem rng0_get {N i : Nat} {x : T} (h : ((List.range N).map fun (k : Nat) => T.int k)[i]? = some x) : i < N ∧ x = .int (i : Nat) := by
  rw [List.getElem?_map] at h
  obtain ⟨p, hp, rfl⟩ := Option.map_eq_some_iff.mp h
  obtain ⟨hr, e0⟩ := List.getElem?_eq_some_iff.mp hp
  rw [List.getElem_range] at e0
  subst e0
  rw [List.length_range] at hr
  exact ⟨hr, rfl⟩
section
variable {Φ : Nat → Spec}
theorem v_pool : VC Φ [false] P_pool il__law_pool 5 := by
  rintro ts Q - - ⟨ns, rfl, q⟩
  show wpSs Φ il__law_pool _ [some (.scr ns), none, none, none, none]
  unfold il__law_pool
  have sl : sizeLine = 16777216 := rfl
  obtain ⟨ms, em, lm⟩ := cut63 ns
  have fm := isFs_ints (s := ms)
  walk_at "pl_vs"
  rw [em]
  refine k_holdT rfl fm ?_
  refine k_for (fun i Γ => ∃ (a : Int) (r : List Int), 0 ≤ a ∧ a < 2147483647 ∧ r.length ≤ 60 * i ∧ Γ = [some (.scr ns), some (.lst true (.int a :: .int 2 :: r.map T.int)), none, none, none]) ⟨141985, [], by omega, by omega, by simp, rfl⟩ ?_ ?_
  · rintro i x Γ hx ⟨a, r, a0, a1, hr, rfl⟩ again ag
    have hi := (List.getElem?_eq_some_iff.mp hx).1
    rw [List.length_map] at hi
    rw [List.getElem?_map] at hx
    obtain ⟨c, hy, rfl⟩ := Option.map_eq_some_iff.mp hx
    walk_at "pl_vs"
    · refine ⟨by decide, by decide, ?_⟩
      refine k_for (fun j Γ => ∃ (n A : Int) (r : List Int), 0 ≤ A ∧ A < 2147483647 ∧ r.length ≤ 60 * i + j ∧ Γ = [some (.scr ns), some (.lst true (.int A :: .int 2 :: r.map T.int)), some (.int c), some (.int n), none]) ⟨_, _, r, Int.emod_nonneg _ (by omega), Int.emod_lt_of_pos _ (by omega), by omega, rfl⟩ ?_ ?_
      · rintro j x Γ hx ⟨n, A, r, A0, A1, hr, rfl⟩ again2 ag2
        obtain ⟨hj, rfl⟩ := rng0_get hx
        have hj : j < 60 := hj
        have hl : (T.int A :: T.int 2 :: r.map T.int).length < sizeLine := by simp only [List.length_cons, List.length_map]; omega
        walk_at "pl_vs"
        · exact ag _ ⟨A, r, A0, A1, by omega, rfl⟩
        · have e : ∀ y : Int, r.map T.int ++ [T.int y] = (r ++ [y]).map T.int := fun y => by simp
          rw [e]
          exact ag2 _ ⟨_, A, _, A0, A1, by simp only [List.length_append, List.length_singleton]; omega, rfl⟩
      · rintro Γ ⟨n, A, r, A0, A1, hr, rfl⟩
        have hr : r.length ≤ 60 * i + 60 := hr
        walk_at "pl_vs"
        exact ag _ ⟨A, r, A0, A1, by omega, rfl⟩
    · exact ag _ ⟨_, r, Int.emod_nonneg _ (by omega), Int.emod_lt_of_pos _ (by omega), by omega, rfl⟩
    · refine ⟨by decide, by decide, ?_⟩
      refine k_for (fun j Γ => ∃ (n A : Int) (r : List Int), 0 ≤ A ∧ A < 2147483647 ∧ r.length ≤ 60 * i + j ∧ Γ = [some (.scr ns), some (.lst true (.int A :: .int 2 :: r.map T.int)), some (.int c), some (.int n), none]) ⟨_, _, r, Int.emod_nonneg _ (by omega), Int.emod_lt_of_pos _ (by omega), by omega, rfl⟩ ?_ ?_
      · rintro j x Γ hx ⟨n, A, r, A0, A1, hr, rfl⟩ again2 ag2
        obtain ⟨hj, rfl⟩ := rng0_get hx
        have hj : j < 60 := hj
        have hl : (T.int A :: T.int 2 :: r.map T.int).length < sizeLine := by simp only [List.length_cons, List.length_map]; omega
        walk_at "pl_vs"
        · exact ag _ ⟨A, r, A0, A1, by omega, rfl⟩
        · have e : ∀ y : Int, r.map T.int ++ [T.int y] = (r ++ [y]).map T.int := fun y => by simp
          rw [e]
          exact ag2 _ ⟨_, A, _, A0, A1, by simp only [List.length_append, List.length_singleton]; omega, rfl⟩
      · rintro Γ ⟨n, A, r, A0, A1, hr, rfl⟩
        have hr : r.length ≤ 60 * i + 60 := hr
        walk_at "pl_vs"
        exact ag _ ⟨A, r, A0, A1, by omega, rfl⟩
    · exact ag _ ⟨_, r, Int.emod_nonneg _ (by omega), Int.emod_lt_of_pos _ (by omega), by omega, rfl⟩
  · rintro Γ ⟨a, r, a0, a1, hr, rfl⟩
    rw [List.length_map] at hr
    walk_at "pl_vs"
    exact q _ ⟨a, 2, r, rfl, a0, a1, by omega, by omega, by omega⟩
end

/-! k84: sayings and rules. -/
def way (y : Say) : Prop := y.2.1 = 1 ∨ y.2.1 = -1
def hld (y : Say) (a : Int) : Bool := decide (0 ≤ (a - y.2.2) * y.2.1)
/-- of a field of n -/
def okY (n : Nat) (y : Say) : Prop := way y ∧ 0 ≤ y.1 ∧ y.1 < n
def hin (y : Say) (s : Sheet) : Bool := hld y (s.getD y.1.toNat 0)
def ruleB (r : Rule) (s : Sheet) : Bool := hin r.1 s || hin r.2 s
def okR (n : Nat) (r : Rule) : Prop := okY n r.1 ∧ okY n r.2
def ctr (y : Say) : Say := (y.1, 0 - y.2.1, y.2.2 - y.2.1)
def P_holds (ts : List T) (K : T → Prop) : Prop := ∃ y a, ts = [yT y, .int a] ∧ way y ∧ K (.bl (hld y a))
def P_contrary (ts : List T) (K : T → Prop) : Prop := ∃ y, ts = [yT y] ∧ K (yT (ctr y))
def P_keeps (ts : List T) (K : T → Prop) : Prop := ∃ rs s, ts = [rsT rs, sT s] ∧ (∀ r ∈ rs, okR s.length r) ∧ K (.bl (rs.all fun r => ruleB r s))
theorem c_holds {y : Say} {a : Int} {K : T → Prop} (w : way y) (k : K (.bl (hld y a))) : P_holds [yT y, .int a] K := ⟨y, a, rfl, w, k⟩
theorem c_contrary {y : Say} {K : T → Prop} (k : K (yT (ctr y))) : P_contrary [yT y] K := ⟨y, rfl, k⟩
theorem c_keeps {rs : List Rule} {s : Sheet} {K : T → Prop} (h : ∀ r ∈ rs, okR s.length r) (k : K (.bl (rs.all fun r => ruleB r s))) : P_keeps [rsT rs, sT s] K := ⟨rs, s, rfl, h, k⟩
theorem at_sT {s : Sheet} {i : Int} (h0 : 0 ≤ i) (h1 : i < s.length) : idxT (sT s) (.int i) = some (.int (s.getD i.toNat 0)) := by
  obtain ⟨n, rfl⟩ : ∃ n : Nat, i = (n : Int) := ⟨i.toNat, by omega⟩
  have hn : n < s.length := by omega
  show L2.atI (s.map T.int) (n : Int) = _
  rw [L2.atI_nat (v := .int (s.getD n 0)) (by simp [hn])]
  rfl
theorem k_iS {s : Sheet} {i : Int} {K : T → Prop} (h0 : 0 ≤ i) (h1 : i < s.length) (k : K (.int (s.getD i.toNat 0))) : kIdx (sT s) (.int i) K := k_idx (at_sT h0 h1) rfl k
section
variable {Φ : Nat → Spec}
theorem v_holds : VC Φ [false, false] P_holds il__law_holds 2 := by
  rintro ts Q - - ⟨y, a, rfl, w, q⟩
  show wpSs Φ il__law_holds _ [some (yT y), some (.int a)]
  unfold il__law_holds
  walk_at "pl_vs"
  have hm : L2.CMul (a - y.2.2) y.2.1 := by
    rcases w with w | w <;> exact .inr ⟨by rw [w]; decide, by rw [w]; decide⟩
  refine o_mul (.inl hm) ?_
  walk_at "pl_vs"
  exact q
theorem v_contrary : VC Φ [false] P_contrary il__law_contrary 1 := by
  rintro ts Q - - ⟨y, rfl, q⟩
  show wpSs Φ il__law_contrary _ [some (yT y)]
  unfold il__law_contrary
  walk_at "pl_vs"
  exact q
theorem v_keeps (h9 : Φ 9 = spF P_holds) : VC Φ [false, false] P_keeps il__law_keeps 4 := by
  rintro ts Q - - ⟨rs, s, rfl, hr, q⟩
  show wpSs Φ il__law_keeps _ [some (rsT rs), some (sT s), none, none]
  unfold il__law_keeps
  walk_at "pl_vs"
  refine k_for (fun i Γ => (∀ r ∈ rs.take i, ruleB r s = true) ∧ Γ = [some (rsT rs), some (sT s), none, none]) ⟨by simp, rfl⟩ ?_ ?_
  · rintro i x Γ hx ⟨ha, rfl⟩ again ag
    rw [List.getElem?_map] at hx
    obtain ⟨r, hy, rfl⟩ := Option.map_eq_some_iff.mp hx
    have ok := hr r (List.mem_of_getElem? hy)
    refine k_bind (Γ2 := [some (rsT rs), some (sT s), some (yT r.1), some (yT r.2)]) rfl ?_
    walk_at "pl_vs"
    refine k_iS ok.1.2.1 ok.1.2.2 ?_
    walk_at "pl_vs"
    refine c_holds ok.1.1 ?_
    walk_at "pl_vs"
    · rename_i h1
      refine k_iS ok.2.2.1 ok.2.2.2 ?_
      walk_at "pl_vs"
      refine c_holds ok.2.1 ?_
      walk_at "pl_vs"
      · rename_i h2
        have e : (rs.all fun r => ruleB r s) = false := by
          rw [List.all_eq_false]
          refine ⟨r, List.mem_of_getElem? hy, ?_⟩
          have e1 : hin r.1 s = false := Bool.not_eq_true' _ |>.mp h1
          have e2 : hin r.2 s = false := Bool.not_eq_true' _ |>.mp h2
          simp [ruleB, e1, e2]
        rw [e] at q
        exact q
      · rename_i h2
        refine ag _ ⟨?_, rfl⟩
        have e2 : hin r.2 s = true := (Bool.not_eq_false' _).mp h2
        rw [List.take_add_one, hy]
        intro x hx
        rcases List.mem_append.mp hx with m | m
        · exact ha x m
        · simp only [Option.toList_some, List.mem_singleton] at m
          rw [m]
          simp [ruleB, e2]
    · rename_i h1
      refine ag _ ⟨?_, rfl⟩
      have e1 : hin r.1 s = true := (Bool.not_eq_false' _).mp h1
      rw [List.take_add_one, hy]
      intro x hx
      rcases List.mem_append.mp hx with m | m
      · exact ha x m
      · simp only [Option.toList_some, List.mem_singleton] at m
        rw [m]
        simp [ruleB, e1]
  · rintro Γ ⟨ha, rfl⟩
    rw [List.length_map, List.take_length] at ha
    walk_at "pl_vs"
    have : (rs.all fun r => ruleB r s) = true := List.all_eq_true.mpr ha
    rw [this] at q
    exact q
end

/-! k84: all sayings, all sheets. -/
def okF (f : Fld) : Prop := f.2.1 ≤ f.2.2 ∧ f.2.2 - f.2.1 ≤ 19 ∧ -2000000 ≤ f.2.1 ∧ f.2.1 ≤ 2000000
def OkFs (fs : List Fld) : Prop := fs.length ≤ 12 ∧ ∀ f ∈ fs, okF f
def dnL (i : Int) (f : Fld) : List Say := (List.range (f.2.2 - f.2.1).toNat).map fun (k : Nat) => (i, -1, f.2.1 + k)
def upL (i : Int) (f : Fld) : List Say := (List.range (f.2.2 + 1 - (f.2.1 + 1)).toNat).map fun (k : Nat) => (i, 1, f.2.1 + 1 + k)
def sayF (i : Nat) (f : Fld) : List Say := dnL i f ++ upL i f
def sayU : Nat → List Fld → List Say
  | _, [] => []
  | n, f :: fs => sayF n f ++ sayU (n + 1) fs
def sayL (fs : List Fld) : List Say := sayU 0 fs
theorem sayU_snoc (f : Fld) : ∀ (n : Nat) (fs : List Fld), sayU n (fs ++ [f]) = sayU n fs ++ sayF (n + fs.length) f
  | n, [] => by simp [sayU]
  | n, g :: fs => by
    rw [List.cons_append, sayU, sayU, sayU_snoc f (n + 1) fs, List.append_assoc, show n + 1 + fs.length = n + (g :: fs).length by simp; omega]
theorem sayF_len {i : Nat} {f : Fld} (h : okF f) : (sayF i f).length ≤ 38 := by
  unfold sayF dnL upL
  obtain ⟨h1, h2, _⟩ := h
  simp only [List.length_append, List.length_map, List.length_range]
  omega
theorem sayU_len : ∀ (n : Nat) {fs : List Fld}, (∀ f ∈ fs, okF f) → (sayU n fs).length ≤ 38 * fs.length
  | n, [], _ => by simp [sayU]
  | n, f :: fs, h => by
    have h1 := sayF_len (i := n) (h f List.mem_cons_self)
    have h2 := sayU_len (n + 1) fun g m => h g (List.mem_cons_of_mem _ m)
    rw [sayU, List.length_append, List.length_cons]
    omega
def P_sayings (ts : List T) (K : T → Prop) : Prop := ∃ fs, ts = [fsT fs] ∧ OkFs fs ∧ K (.lst true ((sayL fs).map yT))
theorem c_sayings {fs : List Fld} {K : T → Prop} (h : OkFs fs) (k : K (.lst true ((sayL fs).map yT))) : P_sayings [fsT fs] K := ⟨fs, rfl, h, k⟩
theorem isFs_yT {ys : List Say} : isFs (ys.map yT) = true := isFs_map (fun _ => rfl) ys
theorem at_fsT {fs : List Fld} {i : Nat} {f : Fld} (h : fs[i]? = some f) : idxT (fsT fs) (.int (i : Int)) = some (fldT f) := by
  show L2.atI (fs.map fldT) (i : Int) = _
  exact L2.atI_nat (by simp [h])
theorem k_if1 {f : Fld} {K : T → Prop} (k : K (.int f.2.1)) : kIdx (fldT f) (.int 1) K := k_it1 rfl k
theorem k_if2 {f : Fld} {K : T → Prop} (k : K (.int f.2.2)) : kIdx (fldT f) (.int 2) K := k_it2 rfl k
local macro_rules | `(tactic| walk_at "pl_vc1") => `(tactic| first | with_reducible apply k_if1 | with_reducible apply k_if2)
section
variable {Φ : Nat → Spec}
theorem v_sayings : VC Φ [false] P_sayings il__law_sayings 4 := by
  rintro ts Q - - ⟨fs, rfl, ⟨hl, ok⟩, q⟩
  show wpSs Φ il__law_sayings _ [some (fsT fs), none, none, none]
  unfold il__law_sayings
  have sl : sizeLine = 16777216 := rfl
  walk_at "pl_vs"
  have len : ((fs.map fldT).length : Int) = fs.length := by simp
  refine ⟨by omega, by simp; omega, ?_⟩
  refine k_for (fun i Γ => Γ = [some (fsT fs), some (.lst true ((sayU 0 (fs.take i)).map yT)), none, none]) (by simp [sayU]) ?_ ?_
  · rintro i x Γ hx rfl again ag
    obtain ⟨hi, rfl⟩ := rng0_get hx
    have hi : i < fs.length := by simpa using hi
    have hf : fs[i]? = some fs[i] := by simp [hi]
    have of := ok fs[i] (List.getElem_mem hi)
    obtain ⟨o1, o2, o3, o4⟩ := of
    walk_at "pl_vs"
    refine k_idx (at_fsT hf) isF_fldT ?_
    walk_at "pl_vs"
    refine k_idx (at_fsT hf) isF_fldT ?_
    walk_at "pl_vs"
    refine ⟨_, _, rfl, rfl, ⟨by omega, by omega, by omega, by omega⟩, ?_⟩
    refine k_cap (show _ ≤ sizeLine by rw [List.length_map, List.length_range]; omega) ?_
    refine k_lcM (fun x => .tup [.int (i : Int), .int (-1), x]) (fun x hx Kk kk => ?_) ?_
    · obtain ⟨j, hj, rfl⟩ := List.mem_map.mp hx
      refine k_bind (Γ2 := [some (fsT fs), none, some (.int (i : Int)), some (.int (fs[i].2.1 + (j : Int)))]) rfl ?_
      walk_at "pl_vs"
      exact kk _ rfl
    have l1 := sayU_len 0 (fs := fs.take i) fun f m => ok f (List.mem_of_mem_take m)
    have l2 : (fs.take i).length ≤ 12 := by rw [List.length_take]; omega
    have l3 := sayF_len (i := i) (ok fs[i] (List.getElem_mem hi))
    unfold sayF at l3
    rw [List.length_append] at l3
    have e1 : (List.map (fun x => T.tup [.int (i : Int), .int (-1), x]) (List.map (fun (k : Nat) => T.int (fs[i].2.1 + (k : Int))) (List.range (fs[i].2.2 - fs[i].2.1).toNat))) = (dnL i fs[i]).map yT := by
      unfold dnL; simp [yT]
    rw [e1]
    refine o_addL isFs_yT isFs_yT (by rw [List.length_map, List.length_map]; omega) ?_
    refine k_bind (Γ2 := [some (fsT fs), some (.lst true ((sayU 0 (fs.take i)).map yT ++ (dnL i fs[i]).map yT)), some (.int (i : Int)), none]) rfl ?_
    walk_at "pl_vs"
    refine k_idx (at_fsT hf) isF_fldT ?_
    walk_at "pl_vs"
    refine k_idx (at_fsT hf) isF_fldT ?_
    walk_at "pl_vs"
    refine ⟨_, _, rfl, rfl, ⟨by omega, by omega, by omega, by omega⟩, ?_⟩
    refine k_cap (show _ ≤ sizeLine by rw [List.length_map, List.length_range]; omega) ?_
    refine k_lcM (fun x => .tup [.int (i : Int), .int 1, x]) (fun x hx Kk kk => ?_) ?_
    · obtain ⟨j, hj, rfl⟩ := List.mem_map.mp hx
      refine k_bind (Γ2 := [some (fsT fs), none, some (.int (i : Int)), some (.int (fs[i].2.1 + 1 + (j : Int)))]) rfl ?_
      walk_at "pl_vs"
      exact kk _ rfl
    have e2 : (List.map (fun x => T.tup [.int (i : Int), .int 1, x]) (List.map (fun (k : Nat) => T.int (fs[i].2.1 + 1 + (k : Int))) (List.range (fs[i].2.2 + 1 - (fs[i].2.1 + 1)).toNat))) = (upL i fs[i]).map yT := by
      unfold upL; simp [yT]
    rw [e2]
    refine o_addL (isFs_app isFs_yT isFs_yT) isFs_yT (by rw [List.length_append, List.length_map, List.length_map, List.length_map]; omega) ?_
    refine k_bind (Γ2 := [some (fsT fs), some (.lst true ((sayU 0 (fs.take i)).map yT ++ (dnL i fs[i]).map yT ++ (upL i fs[i]).map yT)), some (.int (i : Int)), none]) rfl ?_
    walk_at "pl_vs"
    refine ag _ ?_
    rw [List.take_add_one, hf]
    simp only [Option.toList_some]
    rw [sayU_snoc, List.length_take, Nat.min_eq_left (by omega), Nat.zero_add]
    unfold sayF
    rw [List.map_append, List.map_append, List.append_assoc]
  · rintro Γ rfl
    walk_at "pl_vs"
    have e : fs.take ((List.range ((fs.map fldT).length : Int).toNat).map fun (k : Nat) => T.int k).length = fs := List.take_of_length_le (by simp)
    rw [e]
    exact q
end

/-! k84: all sheets. -/
/-- a field's answers -/
def vals (f : Fld) : List Int := (List.range (f.2.2 + 1 - f.2.1).toNat).map fun (k : Nat) => f.2.1 + k
def allU (rows : List Sheet) (f : Fld) : List Sheet := rows.flatMap fun r => (vals f).map fun v => r ++ [v]
def allS (fs : List Fld) : List Sheet := fs.foldl allU [[]]
theorem allS_snoc (fs : List Fld) (f : Fld) : allS (fs ++ [f]) = allU (allS fs) f := by unfold allS; rw [List.foldl_append]; rfl
theorem vals_len {f : Fld} (h : okF f) : 1 ≤ (vals f).length ∧ (vals f).length ≤ 20 := by
  unfold vals
  obtain ⟨h1, h2, _⟩ := h
  rw [List.length_map, List.length_range]
  omega
theorem allU_len (rows : List Sheet) (f : Fld) : (allU rows f).length = rows.length * (vals f).length := by
  unfold allU
  induction rows with
  | nil => simp
  | cons r rows ih => rw [List.flatMap_cons, List.length_append, ih, List.length_map, List.length_cons, Nat.add_mul]; omega
theorem fold_len : ∀ {fs : List Fld} {rows : List Sheet}, (∀ f ∈ fs, okF f) → rows.length ≤ (fs.foldl allU rows).length
  | [], rows, _ => Nat.le_refl _
  | f :: fs, rows, h => by
    have h1 := (vals_len (h f List.mem_cons_self)).1
    have h2 := fold_len (fs := fs) (rows := allU rows f) fun g m => h g (List.mem_cons_of_mem _ m)
    rw [allU_len] at h2
    exact Nat.le_trans (Nat.le_mul_of_pos_right _ h1) h2
theorem allS_pre {fs : List Fld} (h : ∀ f ∈ fs, okF f) (i : Nat) : (allS (fs.take i)).length ≤ (allS fs).length := by
  have := fold_len (fs := fs.drop i) (rows := allS (fs.take i)) fun f m => h f (List.mem_of_mem_drop m)
  unfold allS at this ⊢
  rw [← List.foldl_append, List.take_append_drop] at this
  exact this
def P_all (ts : List T) (K : T → Prop) : Prop := ∃ fs, ts = [fsT fs] ∧ OkFs fs ∧ (allS fs).length ≤ 128 ∧ K (.lst true ((allS fs).map sT))
theorem c_all {fs : List Fld} {K : T → Prop} (h : OkFs fs) (l : (allS fs).length ≤ 128) (k : K (.lst true ((allS fs).map sT))) : P_all [fsT fs] K := ⟨fs, rfl, h, l, k⟩
theorem isFs_sT {xs : List Sheet} : isFs (xs.map sT) = true := isFs_map (fun _ => isF_sT) xs
local macro_rules | `(tactic| walk_at "pl_isf1") => `(tactic| first | with_reducible exact isFs_sT | with_reducible exact isFs_yT)
theorem allS_row : ∀ (fs : List Fld) {s : Sheet}, s ∈ allS fs → s.length = fs.length := by
  intro fs
  induction h : fs.length generalizing fs with
  | zero =>
    intro s m
    rw [List.length_eq_zero_iff.mp h] at m
    have : s = [] := by simpa [allS] using m
    rw [this]; rfl
  | succ n ih =>
    intro s m
    have hne : fs ≠ [] := by intro e; rw [e] at h; simp at h
    rw [← List.dropLast_concat_getLast hne, allS_snoc] at m
    unfold allU at m
    obtain ⟨r, hr, hm⟩ := List.mem_flatMap.mp m
    obtain ⟨v, _, rfl⟩ := List.mem_map.mp hm
    have := ih fs.dropLast (by simp [h]) hr
    simp [this]
section
variable {Φ : Nat → Spec}
theorem v_all : VC Φ [false] P_all il__law_all 8 := by
  rintro ts Q - - ⟨fs, rfl, ⟨hl, ok⟩, hc, q⟩
  show wpSs Φ il__law_all _ [some (fsT fs), none, none, none, none, none, none, none]
  unfold il__law_all
  have sl : sizeLine = 16777216 := rfl
  walk_at "pl_vs"
  refine k_for (fun i Γ => Γ = [some (fsT fs), some (.lst true ((allS (fs.take i)).map sT)), none, none, none, none, none, none]) rfl ?_ ?_
  · rintro i x Γ hx rfl again ag
    rw [List.getElem?_map] at hx
    obtain ⟨f, hf, rfl⟩ := Option.map_eq_some_iff.mp hx
    have of := ok f (List.mem_of_getElem? hf)
    have vl := vals_len of
    obtain ⟨o1, o2, o3, o4⟩ := of
    have pl := allS_pre ok i
    have al : (allS (fs.take (i + 1))).length ≤ 128 := Nat.le_trans (allS_pre ok (i + 1)) hc
    have et : fs.take (i + 1) = fs.take i ++ [f] := by rw [List.take_add_one, hf]; rfl
    rw [et, allS_snoc, allU_len] at al
    refine k_bind (Γ2 := [some (fsT fs), some (.lst true ((allS (fs.take i)).map sT)), some (.str f.1), some (.int f.2.1), some (.int f.2.2), none, none, none]) rfl ?_
    walk_at "pl_vs"
    refine s_forB rfl isFs_sT ?_
    simp only [List.set_cons_zero, List.set_cons_succ]
    refine k_for (fun j Γ => Γ = [some (fsT fs), none, some (.str f.1), some (.int f.2.1), some (.int f.2.2), some (.lst true ((allU ((allS (fs.take i)).take j) f).map sT)), none, none]) rfl ?_ ?_
    · rintro j x Γ hx rfl again2 ag2
      rw [List.getElem?_map] at hx
      obtain ⟨row, hr, rfl⟩ := Option.map_eq_some_iff.mp hx
      have hrl := allS_row (fs.take i) (List.mem_of_getElem? hr)
      refine k_bind (Γ2 := [some (fsT fs), none, some (.str f.1), some (.int f.2.1), some (.int f.2.2), some (.lst true ((allU ((allS (fs.take i)).take j) f).map sT)), some (sT row), none]) rfl ?_
      walk_at "pl_vs"
      refine ⟨_, _, rfl, rfl, ⟨by omega, by omega, by omega, by omega⟩, ?_⟩
      refine k_cap (show _ ≤ sizeLine by rw [List.length_map, List.length_range]; omega) ?_
      refine k_lcM (fun x => .tup (row.map .int ++ [x])) (fun x hx Kk kk => ?_) ?_
      · obtain ⟨k, hk, rfl⟩ := List.mem_map.mp hx
        refine k_bind (Γ2 := [some (fsT fs), none, some (.str f.1), some (.int f.2.1), some (.int f.2.2), none, some (sT row), some (.int (f.2.1 + (k : Int)))]) rfl ?_
        have tl : (fs.take i).length ≤ 12 := by rw [List.length_take]; omega
        walk_at "pl_vs"
        refine o_addT isFs_ints rfl (by simp only [List.length_map, List.length_singleton]; omega) ?_
        exact ⟨isF_tup (isFs_app isFs_ints rfl), kk _ rfl⟩
      have e1 : List.map (fun x => T.tup (row.map T.int ++ [x])) (List.map (fun (k : Nat) => T.int (f.2.1 + (k : Int))) (List.range (f.2.2 + 1 - f.2.1).toNat)) = ((vals f).map fun v => row ++ [v]).map sT := by
        unfold vals; simp [sT]
      rw [e1]
      have l1 : (allU ((allS (fs.take i)).take j) f).length ≤ 128 := by
        rw [allU_len, List.length_take]
        exact Nat.le_trans (Nat.mul_le_mul_right _ (Nat.min_le_right _ _)) al
      refine o_addL isFs_sT isFs_sT (by simp only [List.length_map]; omega) ?_
      refine k_bind (Γ2 := [some (fsT fs), none, some (.str f.1), some (.int f.2.1), some (.int f.2.2), some (.lst true ((allU ((allS (fs.take i)).take j) f).map sT ++ ((vals f).map fun v => row ++ [v]).map sT)), some (sT row), none]) rfl ?_
      walk_at "pl_vs"
      refine ag2 _ ?_
      rw [List.take_add_one, hr]
      unfold allU
      simp
    · rintro Γ rfl
      have e : (allS (fs.take i)).take ((allS (fs.take i)).map sT).length = allS (fs.take i) := List.take_of_length_le (by simp)
      rw [e]
      walk_at "pl_vs"
      refine ag _ ?_
      rw [et, allS_snoc]
  · rintro Γ rfl
    have e : fs.take (fs.map fldT).length = fs := List.take_of_length_le (by simp)
    rw [e]
    walk_at "pl_vs"
    exact q
end

/-! k84: how far a sheet is from others. -/
def xsT (xs : List Sheet) : T := .tup (xs.map sT)
theorem isF_xsT {xs : List Sheet} : isF (xsT xs) = true := isF_tup isFs_sT
local macro_rules | `(tactic| walk_at "pl_isf1") => `(tactic| first | with_reducible exact isF_xsT)
def ab (i : Int) : Int := if i < 0 then -i else i
def dis (o s : Sheet) : List Int := (o.zip s).map fun z => ab (z.1 - z.2)
def farL (xs : List Sheet) (s : Sheet) : List Int := xs.flatMap fun o => dis o s
def far (xs : List Sheet) (s : Sheet) : Int := (farL xs s).sum
def P_far (ts : List T) (K : T → Prop) : Prop := ∃ xs s, ts = [xsT xs, sT s] ∧ (∀ x ∈ xs, x.length = s.length) ∧ xs.length ≤ 200 ∧ s.length ≤ 12 ∧ K (.int (far xs s))
theorem c_far {xs : List Sheet} {s : Sheet} {K : T → Prop} (h : ∀ x ∈ xs, x.length = s.length) (l1 : xs.length ≤ 200) (l2 : s.length ≤ 12) (k : K (.int (far xs s))) : P_far [xsT xs, sT s] K := ⟨xs, s, rfl, h, l1, l2, k⟩
theorem farL_len {xs : List Sheet} {s : Sheet} (l2 : s.length ≤ 12) : (farL xs s).length ≤ 12 * xs.length := by
  unfold farL
  induction xs with
  | nil => simp
  | cons x xs ih =>
    rw [List.flatMap_cons, List.length_append, List.length_cons]
    have : (dis x s).length ≤ 12 := by unfold dis; simp; omega
    omega
theorem intsT_ints : ∀ l : List Int, intsT (l.map T.int) = some l
  | [] => rfl
  | x :: l => by simp [intsT, intsT_ints l]
section
variable {Φ : Nat → Spec}
theorem v_far_from : VC Φ [false, false] P_far il_far_from 5 := by
  rintro ts Q - - ⟨xs, s, rfl, hx, l1, l2, q⟩
  show wpSs Φ il_far_from _ [some (xsT xs), some (sT s), none, none, none]
  unfold il_far_from
  have sl : sizeLine = 16777216 := rfl
  walk_at "pl_vs"
  refine lcA_iv (fun i acc => acc = (farL (xs.take i) s).map T.int) (by simp [farL]) ?_ ?_
  · rintro i x acc hxi rfl Kk kk
    rw [List.getElem?_map] at hxi
    obtain ⟨o, ho, rfl⟩ := Option.map_eq_some_iff.mp hxi
    have hl := hx o (List.mem_of_getElem? ho)
    have hi : i < xs.length := (List.getElem?_eq_some_iff.mp ho).1
    have fl := farL_len (xs := xs.take i) l2
    have tl : (xs.take i).length ≤ 200 := by rw [List.length_take]; omega
    refine k_bind (Γ2 := [some (xsT xs), some (sT s), some (sT o), none, none]) rfl ?_
    walk_at "pl_vs"
    refine lcA_iv (fun j acc => acc = (farL (xs.take i) s ++ (dis o s).take j).map T.int) (by simp) ?_ ?_
    · rintro j y acc hy rfl Kj kj
      rw [List.getElem?_map] at hy
      obtain ⟨z, hz, rfl⟩ := Option.map_eq_some_iff.mp hy
      obtain ⟨hz1, hz2⟩ := List.getElem?_eq_some_iff.mp hz
      have hj1 : j < o.length := by simp at hz1; omega
      have hj2 : j < s.length := by omega
      have ez : z = (.int o[j], .int s[j]) := by rw [← hz2]; simp
      subst ez
      have hd : (dis o s)[j]? = some (ab (o[j] - s[j])) := by
        unfold dis
        rw [List.getElem?_map, List.getElem?_eq_getElem (by simp; omega)]
        simp
      refine k_bind (Γ2 := [some (xsT xs), some (sT s), some (sT o), some (.int o[j]), some (.int s[j])]) rfl ?_
      walk_at "pl_vs"
      have dl : ((dis o s).take j).length ≤ 12 := by rw [List.length_take]; unfold dis; simp; omega
      refine ⟨by rw [List.length_map, List.length_append]; omega, kj _ _ ?_ rfl⟩
      · rw [List.take_add_one, hd]
        simp [ab]
    · rintro acc Γ' rfl hw
      refine kk _ _ ?_ ?_
      · have e : (dis o s).take (((o.map T.int).zip (s.map T.int)).map fun z => T.tup [z.1, z.2]).length = dis o s := List.take_of_length_le (by unfold dis; simp)
        rw [e, List.take_add_one, ho]
        unfold farL
        simp
      · rw [← wipeE_sub (own1 := [3, 4]) (own := [2, 3, 4]) (by decide) Γ', hw, wipeE_sub (by decide)]
        rfl
  · rintro acc Γ' rfl hw
    have e : xs.take (xs.map sT).length = xs := List.take_of_length_le (by simp)
    rw [e]
    exact b_sum (intsT_ints _) (k_io rfl q)
end

/-! k84: how far, the law's way. -/
theorem dis_get {o s : Sheet} {j : Nat} (h1 : j < o.length) (h2 : j < s.length) : (dis o s)[j]? = some (ab (o[j] - s[j])) := by
  unfold dis
  rw [List.getElem?_map, List.getElem?_eq_getElem (by simp; omega)]
  simp
theorem k_iSn {s : Sheet} {i : Nat} {K : T → Prop} (h1 : i < s.length) (k : K (.int s[i])) : kIdx (sT s) (.int (i : Int)) K := by
  refine k_iS (by omega) (by omega) ?_
  have : s.getD (i : Int).toNat 0 = s[i] := by simp [h1]
  rw [this]
  exact k
section
variable {Φ : Nat → Spec}
theorem v_law_far : VC Φ [false, false] P_far il__law_far 5 := by
  rintro ts Q - - ⟨xs, s, rfl, hx, l1, l2, q⟩
  show wpSs Φ il__law_far _ [some (xsT xs), some (sT s), none, none, none]
  unfold il__law_far
  have sl : sizeLine = 16777216 := rfl
  walk_at "pl_vs"
  refine k_for (fun i Γ => Γ = [some (xsT xs), some (sT s), some (.int (farL (xs.take i) s).sum), none, none]) (by simp [farL]) ?_ ?_
  · rintro i x Γ hxi rfl again ag
    rw [List.getElem?_map] at hxi
    obtain ⟨o, ho, rfl⟩ := Option.map_eq_some_iff.mp hxi
    have hl := hx o (List.mem_of_getElem? ho)
    walk_at "pl_vs"
    refine ⟨by omega, by simp; omega, ?_⟩
    refine k_for (fun j Γ => Γ = [some (xsT xs), some (sT s), some (.int ((farL (xs.take i) s).sum + ((dis o s).take j).sum)), some (sT o), none]) (by simp) ?_ ?_
    · rintro j y Γ hy rfl again2 ag2
      obtain ⟨hj, rfl⟩ := rng0_get hy
      have hj2 : j < s.length := by simpa using hj
      have hj1 : j < o.length := by omega
      walk_at "pl_vs"
      refine k_iSn hj1 ?_
      walk_at "pl_vs"
      refine k_iSn hj2 ?_
      walk_at "pl_vs"
      refine ag2 _ ?_
      rw [List.take_add_one, dis_get hj1 hj2]
      simp [ab, Int.add_assoc]
    · rintro Γ rfl
      have e : (dis o s).take ((List.range ((s.map T.int).length : Int).toNat).map fun (k : Nat) => T.int k).length = dis o s := List.take_of_length_le (by unfold dis; simp; omega)
      rw [e]
      walk_at "pl_vs"
      refine ag _ ?_
      rw [List.take_add_one, ho]
      unfold farL
      simp
  · rintro Γ rfl
    have e : xs.take (xs.map sT).length = xs := List.take_of_length_le (by simp)
    rw [e]
    walk_at "pl_vs"
    exact q
end

/-! k84: ranks. -/
def srt (l : List Int) : List Int := l.mergeSort fun a b => decide (a ≤ b)
def col (xs : List Sheet) (f : Nat) : List Int := xs.map fun x => x.getD f 0
def rankS (xs : List Sheet) (n m : Nat) : Sheet := (List.range n).map fun f => (srt (col xs f)).getD m 0
theorem srt_T (l : List Int) : (l.map T.int).mergeSort (PySem.W.dataLe false data) = (srt l).map T.int := by
  unfold srt
  rw [List.map_mergeSort]
  intro a _ b _
  exact (congrFun (congrFun (PySem.W.dataLe_int (fun x : Int => x)) a) b).symm
theorem sortable_ints (l : List Int) : sortable (l.map T.int) := by
  refine ⟨fun d hd d' hd' => ?_, .inr fun d hd => ?_, fun x hx => ?_⟩
  · rw [datas_map] at hd hd'
    obtain ⟨x, hx, rfl⟩ := List.mem_map.mp hd
    obtain ⟨y, hy, rfl⟩ := List.mem_map.mp hd'
    obtain ⟨a, _, rfl⟩ := List.mem_map.mp hx
    obtain ⟨b, _, rfl⟩ := List.mem_map.mp hy
    rfl
  · rw [datas_map] at hd
    obtain ⟨x, hx, rfl⟩ := List.mem_map.mp hd
    obtain ⟨a, _, rfl⟩ := List.mem_map.mp hx
    exact ⟨by simp [data], fun xs => by simp [data]⟩
  · obtain ⟨a, _, rfl⟩ := List.mem_map.mp hx
    rfl
theorem srt_len (l : List Int) : (srt l).length = l.length := List.length_mergeSort _
theorem mnL_eq {n : Nat} : ∀ {cs : List (List T)}, cs ≠ [] → (∀ c ∈ cs, c.length = n) → mnL cs = n
  | [], h, _ => absurd rfl h
  | [c], _, h => h c List.mem_cons_self
  | c :: d :: cs, _, h => by
    show min c.length (mnL (d :: cs)) = n
    rw [h c List.mem_cons_self, mnL_eq (by simp) fun x m => h x (List.mem_cons_of_mem _ m), Nat.min_self]
/-- zip of all sheets: the columns -/
theorem zips_cols {xs : List Sheet} {n : Nat} {R : List T → Prop} (h0 : xs ≠ []) (h : ∀ x ∈ xs, x.length = n) (k : R ((List.range n).map fun f => T.tup ((col xs f).map T.int))) : zipsP (xs.map sT) R := by
  refine ⟨xs.map fun x => x.map T.int, by rw [List.map_map]; rfl, by simp [h0], ?_⟩
  rw [mnL_eq (n := n) (by simp [h0]) fun c hc => by
    obtain ⟨x, hx, rfl⟩ := List.mem_map.mp hc
    rw [List.length_map, h x hx]]
  have e : ((List.range n).map fun i => T.tup ((xs.map fun x => x.map T.int).map fun c => c.getD i .non)) = (List.range n).map fun f => T.tup ((col xs f).map T.int) := by
    refine List.map_congr_left fun i hi => ?_
    have hi : i < n := List.mem_range.mp hi
    unfold col
    rw [List.map_map, List.map_map]
    congr 1
    refine List.map_congr_left fun x hx => ?_
    have := h x hx
    simp [hi, this]
  rw [e]
  exact k
def P_rank (ts : List T) (K : T → Prop) : Prop := ∃ xs n m, ts = [xsT xs, .int m] ∧ xs ≠ [] ∧ (∀ x ∈ xs, x.length = n) ∧ xs.length ≤ 200 ∧ n ≤ 12 ∧ 0 ≤ m ∧ m < xs.length ∧ K (sT (rankS xs n m.toNat))
theorem c_rank {xs : List Sheet} {n : Nat} {m : Int} {K : T → Prop} (h0 : xs ≠ []) (h : ∀ x ∈ xs, x.length = n) (l1 : xs.length ≤ 200) (l2 : n ≤ 12) (m0 : 0 ≤ m) (m1 : m < xs.length) (k : K (sT (rankS xs n m.toNat))) : P_rank [xsT xs, .int m] K := ⟨xs, n, m, rfl, h0, h, l1, l2, m0, m1, k⟩
theorem at_ints {l : List Int} {m : Int} (m0 : 0 ≤ m) (m1 : m < l.length) : L2.atI (l.map T.int) m = some (.int (l.getD m.toNat 0)) := at_sT (s := l) m0 m1
section
variable {Φ : Nat → Spec}
theorem v_rank_sheet : VC Φ [false, false] P_rank il_rank_sheet 3 := by
  rintro ts Q - - ⟨xs, n, m, rfl, h0, h, l1, l2, m0, m1, q⟩
  show wpSs Φ il_rank_sheet _ [some (xsT xs), some (.int m), none]
  unfold il_rank_sheet
  have sl : sizeLine = 16777216 := rfl
  walk_at "pl_vs"
  refine zips_cols h0 h ?_
  refine k_cap (show _ ≤ sizeLine by rw [List.length_map, List.length_range]; omega) ?_
  refine k_lcM (fun x => match x with | .tup c => .int ((srt (c.map fun t => match t with | .int i => i | _ => 0)).getD m.toNat 0) | _ => .non) (fun x hx Kk kk => ?_) ?_
  · obtain ⟨f, hf, rfl⟩ := List.mem_map.mp hx
    refine k_bind (Γ2 := [some (xsT xs), some (.int m), some (.tup ((col xs f).map T.int))]) rfl ?_
    walk_at "pl_vs"
    refine b_sortT isFs_ints (sortable_ints _) ?_
    rw [srt_T]
    walk_at "pl_vs"
    have hl : (srt (col xs f)).length = xs.length := by rw [srt_len]; unfold col; rw [List.length_map]
    refine k_idx (at_ints m0 (by rw [hl]; exact m1)) rfl ?_
    have e : ((col xs f).map T.int).map (fun t => match t with | .int i => i | _ => 0) = col xs f := by rw [List.map_map]; exact List.map_id _
    have := kk [some (xsT xs), some (.int m), some (.tup ((col xs f).map T.int))] rfl
    simp only [e] at this
    walk_at "pl_vs"
    exact this
  · rw [List.map_map]
    have e : (List.range n).map ((fun x : T => match x with | .tup c => T.int ((srt (c.map fun t => match t with | .int i => i | _ => 0)).getD m.toNat 0) | _ => .non) ∘ fun f => T.tup ((col xs f).map T.int)) = (rankS xs n m.toNat).map T.int := by
      unfold rankS
      rw [List.map_map]
      refine List.map_congr_left fun f _ => ?_
      show T.int ((srt (((col xs f).map T.int).map (fun t => match t with | .int i => i | _ => 0))).getD m.toNat 0) = _
      have e : ((col xs f).map T.int).map (fun t => match t with | .int i => i | _ => 0) = col xs f := by rw [List.map_map]; exact List.map_id _
      rw [e]
      rfl
    rw [e]
    refine b_tupL isFs_ints ?_
    exact k_io rfl q
end

/-! k84: ranks, the law's way; centres. -/
section
variable {Φ : Nat → Spec}
theorem v_law_rank : VC Φ [false, false] P_rank il__law_rank 4 := by
  rintro ts Q - - ⟨xs, n, m, rfl, h0, h, l1, l2, m0, m1, q⟩
  show wpSs Φ il__law_rank _ [some (xsT xs), some (.int m), none, none]
  unfold il__law_rank
  have sl : sizeLine = 16777216 := rfl
  obtain ⟨x0, xr, rfl⟩ : ∃ x r, xs = x :: r := by
    cases xs with
    | nil => exact absurd rfl h0
    | cons x r => exact ⟨x, r, rfl⟩
  have hx0 := h x0 List.mem_cons_self
  walk_at "pl_vs"
  refine k_idx (v := sT x0) (L2.atI_nat (j := 0) rfl) isF_sT ?_
  walk_at "pl_vs"
  refine ⟨by omega, by simp; omega, ?_⟩
  refine k_cap (show _ ≤ sizeLine by simp; omega) ?_
  refine k_lcM (fun x => match x with | .int i => .int ((srt (col (x0 :: xr) i.toNat)).getD m.toNat 0) | _ => .non) (fun x hx Kk kk => ?_) ?_
  · obtain ⟨f, hf, rfl⟩ := List.mem_map.mp hx
    have hf : f < n := by simpa [hx0] using hf
    refine k_bind (Γ2 := [some (xsT (x0 :: xr)), some (.int m), none, some (.int (f : Int))]) rfl ?_
    walk_at "pl_vs"
    refine k_lcM (fun t => match t with | .tup c => c.getD f .non | _ => .non) (fun t ht Kj kj => ?_) ?_
    · obtain ⟨s, hs, rfl⟩ := List.mem_map.mp ht
      have hsl := h s hs
      refine k_bind (Γ2 := [some (xsT (x0 :: xr)), some (.int m), some (sT s), some (.int (f : Int))]) rfl ?_
      walk_at "pl_vs"
      refine k_iSn (by omega) ?_
      have := kj [some (xsT (x0 :: xr)), some (.int m), some (sT s), some (.int (f : Int))] rfl
      have e : (s.map T.int).getD f .non = .int (s[f]'(by omega)) := by simp [show f < s.length by omega]
      simp only [sT, e] at this
      walk_at "pl_vs"
      exact this
    · have e : ((x0 :: xr).map sT).map (fun t : T => match t with | .tup c => c.getD f .non | _ => .non) = (col (x0 :: xr) f).map T.int := by
        unfold col
        rw [List.map_map, List.map_map]
        refine List.map_congr_left fun s hs => ?_
        have hsl := h s hs
        show (s.map T.int).getD f .non = T.int (s.getD f 0)
        simp [show f < s.length by omega]
      rw [e]
      refine b_sortL isFs_ints (sortable_ints _) ?_
      rw [srt_T]
      have hl : (srt (col (x0 :: xr) f)).length = (x0 :: xr).length := by rw [srt_len]; unfold col; rw [List.length_map]
      walk_at "pl_vs"
      refine k_idx (at_ints m0 (by rw [hl]; exact m1)) rfl ?_
      walk_at "pl_vs"
      exact kk _ rfl
  · have e : (List.map (fun (k : Nat) => T.int k) (List.range ((x0.map T.int).length : Int).toNat)).map (fun x : T => match x with | .int i => T.int ((srt (col (x0 :: xr) i.toNat)).getD m.toNat 0) | _ => .non) = (rankS (x0 :: xr) n m.toNat).map T.int := by
      unfold rankS
      rw [List.map_map, List.map_map, List.length_map, hx0]
      rfl
    rw [e]
    refine b_tupL isFs_ints ?_
    walk_at "pl_vs"
    exact q
end

/-! k84: centres. -/
def oddOf (xs : List Sheet) : List Sheet := xs.take (xs.length - 1 + xs.length % 2)
def centreS (xs : List Sheet) (n : Nat) : Sheet := rankS (oddOf xs) n ((oddOf xs).length / 2)
theorem odd_len {xs : List Sheet} (h : xs ≠ []) : (oddOf xs).length = xs.length - 1 + xs.length % 2 ∧ (oddOf xs).length % 2 = 1 ∧ (oddOf xs).length ≤ xs.length ∧ oddOf xs ≠ [] := by
  have h1 : 0 < xs.length := List.length_pos_iff.mpr h
  have e : (oddOf xs).length = xs.length - 1 + xs.length % 2 := by unfold oddOf; rw [List.length_take]; omega
  refine ⟨e, by omega, by omega, fun z => ?_⟩
  rw [z] at e
  simp at e
  omega
theorem cut_sheets (xs : List Sheet) (k : Nat) : slP.cutV' (xs.map sT) none (some (k : Int)) = (xs.take k).map sT := by
  unfold slP.cutV'
  rw [HT.sIx_none, List.drop_zero, HT.sIx_nat, ← List.map_take, Nat.sub_zero, List.length_map]
  congr 1
  by_cases h : k ≤ xs.length
  · rw [Nat.min_eq_left h]
  · rw [Nat.min_eq_right (by omega), List.take_of_length_le (Nat.le_refl _), List.take_of_length_le (by omega)]
def P_centre (ts : List T) (K : T → Prop) : Prop := ∃ xs n, ts = [xsT xs] ∧ xs ≠ [] ∧ (∀ x ∈ xs, x.length = n) ∧ xs.length ≤ 200 ∧ n ≤ 12 ∧ K (sT (centreS xs n))
theorem c_centre {xs : List Sheet} {n : Nat} {K : T → Prop} (h0 : xs ≠ []) (h : ∀ x ∈ xs, x.length = n) (l1 : xs.length ≤ 200) (l2 : n ≤ 12) (k : K (sT (centreS xs n))) : P_centre [xsT xs] K := ⟨xs, n, rfl, h0, h, l1, l2, k⟩
section
variable {Φ : Nat → Spec}
theorem v_law_centre (h23 : Φ 23 = spF P_rank) : VC Φ [false] P_centre il__law_centre 2 := by
  rintro ts Q - - ⟨xs, n, rfl, h0, h, l1, l2, q⟩
  show wpSs Φ il__law_centre _ [some (xsT xs), none]
  unfold il__law_centre
  have sl : sizeLine = 16777216 := rfl
  obtain ⟨e1, e2, e3, e4⟩ := odd_len h0
  have h1 : 0 < xs.length := List.length_pos_iff.mpr h0
  walk_at "pl_vs"
  refine l_tup (xs := xs.map sT) isFs_sT ?_
  have e : (((xs.map sT).length : Int) - 1 + ((xs.map sT).length : Int) % 2) = ((xs.length - 1 + xs.length % 2 : Nat) : Int) := by rw [List.length_map]; omega
  rw [e, cut_sheets]
  refine k_bind (Γ2 := [some (xsT xs), some (xsT (oddOf xs))]) rfl ?_
  walk_at "pl_vs"
  have e' : (((oddOf xs).map sT).length - 1 : Int) / 2 = (((oddOf xs).length / 2 : Nat) : Int) := by rw [List.length_map]; omega
  rw [e']
  refine c_rank e4 (fun x m => h x (List.mem_of_mem_take m)) (by omega) l2 (by omega) (by omega) ?_
  walk_at "pl_vs"
  exact q
theorem v_centre_of : VC Φ [false] P_centre il_centre_of 4 := by
  rintro ts Q - - ⟨xs, n, rfl, h0, h, l1, l2, q⟩
  show wpSs Φ il_centre_of _ [some (xsT xs), none, none, none]
  unfold il_centre_of
  have sl : sizeLine = 16777216 := rfl
  obtain ⟨e1, e2, e3, e4⟩ := odd_len h0
  have h1 : 0 < xs.length := List.length_pos_iff.mpr h0
  have tail : ∀ (v : T) (ys : List Sheet), v = xsT ys → ys = oddOf xs → zipsP (ys.map sT) fun zs => kCap (I.zips (P.var 2)) zs (kLc Φ [3] (G.nm 3) Oc.no (E.idx (P.tmp (E.bi Bi.sorted (P.var 3))) (E.op Op.fdiv (E.bi Bi.len (P.var 2)) (E.int 2))) zs
      [some (xsT xs), some (.int ((xs.map sT).length : Int)), some (xsT ys), none] fun x Γ1 => biP Bi.tuple x fun v => ioK [false] (Q v) Γ1) := by
    rintro v ys rfl rfl
    refine zips_cols e4 (fun x m => h x (List.mem_of_mem_take m)) ?_
    refine k_cap (show _ ≤ sizeLine by rw [List.length_map, List.length_range]; omega) ?_
    refine k_lcM (fun x => match x with | .tup c => .int ((srt (c.map fun t => match t with | .int i => i | _ => 0)).getD ((oddOf xs).length / 2) 0) | _ => .non) (fun x hx Kk kk => ?_) ?_
    · obtain ⟨f, hf, rfl⟩ := List.mem_map.mp hx
      refine k_bind (Γ2 := [some (xsT xs), some (.int ((xs.map sT).length : Int)), some (xsT (oddOf xs)), some (.tup ((col (oddOf xs) f).map T.int))]) rfl ?_
      walk_at "pl_vs"
      refine b_sortT isFs_ints (sortable_ints _) ?_
      rw [srt_T]
      walk_at "pl_vs"
      have hl : (srt (col (oddOf xs) f)).length = (oddOf xs).length := by rw [srt_len]; unfold col; rw [List.length_map]
      have ed : (((oddOf xs).map sT).length : Int) / 2 = (((oddOf xs).length / 2 : Nat) : Int) := by rw [List.length_map]; omega
      rw [ed]
      walk_at "pl_vs"
      refine k_idx (at_ints (by omega) (by rw [hl]; omega)) rfl ?_
      have e : ((col (oddOf xs) f).map T.int).map (fun t => match t with | .int i => i | _ => 0) = col (oddOf xs) f := by rw [List.map_map]; exact List.map_id _
      have := kk [some (xsT xs), some (.int ((xs.map sT).length : Int)), some (xsT (oddOf xs)), some (.tup ((col (oddOf xs) f).map T.int))] rfl
      simp only [e] at this
      walk_at "pl_vs"
      exact this
    · rw [List.map_map]
      have e : (List.range n).map ((fun x : T => match x with | .tup c => T.int ((srt (c.map fun t => match t with | .int i => i | _ => 0)).getD ((oddOf xs).length / 2) 0) | _ => .non) ∘ fun f => T.tup ((col (oddOf xs) f).map T.int)) = (centreS xs n).map T.int := by
        unfold centreS rankS
        rw [List.map_map]
        refine List.map_congr_left fun f _ => ?_
        show T.int ((srt (((col (oddOf xs) f).map T.int).map (fun t => match t with | .int i => i | _ => 0))).getD ((oddOf xs).length / 2) 0) = _
        have e : ((col (oddOf xs) f).map T.int).map (fun t => match t with | .int i => i | _ => 0) = col (oddOf xs) f := by rw [List.map_map]; exact List.map_id _
        rw [e]
        rfl
      rw [e]
      refine b_tupL isFs_ints ?_
      walk_at "pl_vs"
      exact q
  walk_at "pl_vs"
  · rename_i ho
    have ho : ((xs.map sT).length : Int) % 2 = 1 := ho
    rw [List.length_map] at ho
    refine tail (xsT xs) xs rfl ?_
    unfold oddOf
    rw [List.take_of_length_le (by omega)]
  · rename_i ho
    have ho : ¬ ((xs.map sT).length : Int) % 2 = 1 := ho
    rw [List.length_map] at ho
    refine l_tup (xs := xs.map sT) isFs_sT ?_
    have e : (((xs.map sT).length : Int) - 1) = ((xs.length - 1 : Nat) : Int) := by rw [List.length_map]; omega
    rw [e, cut_sheets]
    have eo : xs.take (xs.length - 1) = oddOf xs := by unfold oddOf; congr 1; omega
    rw [eo]
    refine k_bind (Γ2 := [some (xsT xs), some (.int ((xs.map sT).length : Int)), some (xsT (oddOf xs)), none]) rfl ?_
    walk_at "pl_vs"
    exact tail _ _ rfl rfl
end

/-! k84: the middle by weights. -/
abbrev Pr := Int × Int
def prT (z : Pr) : T := .tup [.int z.1, .int z.2]
def wsum (l : List Pr) : Int := (l.map (·.2)).sum
/-- the weights of those at most as great -/
def upW (l : List Pr) (v : Int) : Int := wsum (l.filter fun z => decide (z.1 ≤ v))
def IsW (l : List Pr) (v : Int) : Prop := v ∈ l.map (·.1) ∧ wsum l < 2 * upW l v ∧ ∀ u ∈ l.map (·.1), wsum l < 2 * upW l u → v ≤ u
theorem wsum_app (a b : List Pr) : wsum (a ++ b) = wsum a + wsum b := by unfold wsum; rw [List.map_append, List.sum_append]
theorem wsum_perm {a b : List Pr} (h : a.Perm b) : wsum a = wsum b := by
  unfold wsum
  induction h with
  | nil => rfl
  | cons x _ ih => rw [List.map_cons, List.map_cons, List.sum_cons, List.sum_cons, ih]
  | swap x y l => simp only [List.map_cons, List.sum_cons]; omega
  | trans _ _ i1 i2 => exact i1.trans i2
theorem upW_perm {a b : List Pr} (h : a.Perm b) (v : Int) : upW a v = upW b v := wsum_perm (h.filter _)
theorem wsum_nn : ∀ {l : List Pr}, (∀ z ∈ l, 1 ≤ z.2) → 0 ≤ wsum l
  | [], _ => by simp [wsum]
  | z :: l, h => by
    have h1 := h z List.mem_cons_self
    have h2 := wsum_nn fun y m => h y (List.mem_cons_of_mem _ m)
    unfold wsum at h2 ⊢
    rw [List.map_cons, List.sum_cons]
    omega
theorem wsum_sub : ∀ {l : List Pr} (p : Pr → Bool), (∀ z ∈ l, 1 ≤ z.2) → wsum (l.filter p) ≤ wsum l
  | [], _, _ => by simp [wsum]
  | z :: l, p, h => by
    have h1 := h z List.mem_cons_self
    have h2 := wsum_sub p fun y m => h y (List.mem_cons_of_mem _ m)
    rw [List.filter_cons]
    split
    · unfold wsum at h2 ⊢
      rw [List.map_cons, List.map_cons, List.sum_cons, List.sum_cons]
      omega
    · unfold wsum at h2 ⊢
      rw [List.map_cons, List.sum_cons]
      omega
def srtP (l : List Pr) : List Pr := l.mergeSort fun p q => decide (p.1 < q.1 ∨ (p.1 = q.1 ∧ p.2 ≤ q.2))
theorem srtP_perm (l : List Pr) : (srtP l).Perm l := List.mergeSort_perm _ _
theorem srtP_sorted (l : List Pr) : (srtP l).Pairwise fun p q => p.1 ≤ q.1 := by
  have := List.pairwise_mergeSort (le := fun p q : Pr => decide (p.1 < q.1 ∨ (p.1 = q.1 ∧ p.2 ≤ q.2))) (fun a b c h1 h2 => by
    simp only [decide_eq_true_eq] at h1 h2 ⊢; omega) (fun a b => by
    simp only [Bool.or_eq_true, decide_eq_true_eq]; omega) l
  exact this.imp fun h => by simp only [decide_eq_true_eq] at h; omega
theorem srtP_T (l : List Pr) : (l.map prT).mergeSort (PySem.W.dataLe false data) = (srtP l).map prT := by
  unfold srtP
  rw [List.map_mergeSort]
  intro a _ b _
  exact (congrFun (congrFun (PySem.W.dataLe_ii (fun x : Pr => x.1) (fun x : Pr => x.2)) a) b).symm
theorem zipT_ints (c w : List Int) : zipT (c.map T.int) (w.map T.int) = (c.zip w).map prT := by
  unfold zipT
  rw [List.zip_map, List.map_map]
  rfl
theorem sortable_prT (l : List Pr) : sortable (l.map prT) := by
  refine ⟨fun d hd d' hd' => ?_, .inl fun d hd => ?_, fun x hx => ?_⟩
  · rw [datas_map] at hd hd'
    obtain ⟨x, hx, rfl⟩ := List.mem_map.mp hd
    obtain ⟨y, hy, rfl⟩ := List.mem_map.mp hd'
    obtain ⟨a, _, rfl⟩ := List.mem_map.mp hx
    obtain ⟨b, _, rfl⟩ := List.mem_map.mp hy
    simp [prT, data, datas, PySem.W.alike, PySem.W.alikeAll]
  · rw [datas_map] at hd
    obtain ⟨x, hx, rfl⟩ := List.mem_map.mp hd
    obtain ⟨a, _, rfl⟩ := List.mem_map.mp hx
    exact ⟨_, _, rfl⟩
  · obtain ⟨a, _, rfl⟩ := List.mem_map.mp hx
    rfl
theorem isFs_prT {l : List Pr} : isFs (l.map prT) = true := isFs_map (fun _ => rfl) l
local macro_rules | `(tactic| walk_at "pl_isf1") => `(tactic| first | with_reducible exact isFs_prT)
/-- in sorted pairs: the first whose running weight is over half -/
theorem isW_at {L : List Pr} (hs : L.Pairwise fun p q => p.1 ≤ q.1) (hw : ∀ z ∈ L, 1 ≤ z.2) {i : Nat} {z : Pr} (hz : L[i]? = some z) (h1 : wsum L < 2 * wsum (L.take (i + 1))) (h0 : 2 * wsum (L.take i) ≤ wsum L) : IsW L z.1 := by
  obtain ⟨hi, ez⟩ := List.getElem?_eq_some_iff.mp hz
  have hle : ∀ y ∈ L.take (i + 1), y.1 ≤ z.1 := fun y hy => by
    rw [List.take_add_one, hz] at hy
    rcases List.mem_append.mp hy with m | m
    · obtain ⟨j, hj⟩ := List.mem_iff_getElem?.mp m
      obtain ⟨hj1, ej⟩ := List.getElem?_eq_some_iff.mp hj
      rw [List.length_take] at hj1
      rw [List.getElem_take] at ej
      rw [← ej, ← ez]
      exact List.pairwise_iff_getElem.mp hs j i (by omega) hi (by omega)
    · simp only [Option.toList_some, List.mem_singleton] at m
      rw [m]
      exact Int.le_refl _
  have hge : ∀ y ∈ L.drop i, z.1 ≤ y.1 := fun y hy => by
    obtain ⟨j, hj⟩ := List.mem_iff_getElem?.mp hy
    rw [List.getElem?_drop] at hj
    obtain ⟨hj1, ej⟩ := List.getElem?_eq_some_iff.mp hj
    by_cases h : j = 0
    · subst h
      have : L[i + 0] = z := ez
      rw [this] at ej
      rw [ej]
      exact Int.le_refl _
    · rw [← ej, ← ez]
      exact List.pairwise_iff_getElem.mp hs i (i + j) hi hj1 (by omega)
  have split : ∀ (k : Nat) v, upW L v = wsum ((L.take k).filter fun z => decide (z.1 ≤ v)) + wsum ((L.drop k).filter fun z => decide (z.1 ≤ v)) := fun k v => by
    unfold upW
    conv => lhs; rw [← List.take_append_drop k L]
    rw [List.filter_append, wsum_app]
  refine ⟨List.mem_map_of_mem (List.mem_of_getElem? hz), ?_, fun u hu hU => ?_⟩
  · rw [split (i + 1)]
    rw [show ((L.take (i + 1)).filter fun y => decide (y.1 ≤ z.1)) = L.take (i + 1) from List.filter_eq_self.mpr fun y hy => by simpa using hle y hy]
    have := wsum_nn (l := (L.drop (i + 1)).filter fun y => decide (y.1 ≤ z.1)) fun y hy => hw y (List.mem_of_mem_drop (List.mem_filter.mp hy).1)
    omega
  · apply Classical.byContradiction
    intro hn
    have : ((L.drop i).filter fun y => decide (y.1 ≤ u)) = [] := List.filter_eq_nil_iff.mpr fun y hy => by
      have := hge y hy
      simp only [decide_eq_true_eq]
      omega
    rw [split i, this] at hU
    have h2 := wsum_sub (l := L.take i) (fun y => decide (y.1 ≤ u)) fun y hy => hw y (List.mem_of_mem_take hy)
    have : wsum [] = 0 := rfl
    omega
theorem IsW.perm {a b : List Pr} (h : a.Perm b) {v : Int} (w : IsW a v) : IsW b v := by
  obtain ⟨h1, h2, h3⟩ := w
  have hm : ∀ u, u ∈ a.map (·.1) ↔ u ∈ b.map (·.1) := fun u => (h.map _).mem_iff
  refine ⟨(hm v).mp h1, by rw [← wsum_perm h, ← upW_perm h]; exact h2, fun u hu hU => h3 u ((hm u).mpr hu) (by rw [wsum_perm h, upW_perm h]; exact hU)⟩
theorem IsW.uniq {l : List Pr} {u v : Int} (a : IsW l u) (b : IsW l v) : u = v := by
  have h1 := a.2.2 v b.1 b.2.1
  have h2 := b.2.2 u a.1 a.2.1
  omega
def P_wa (ts : List T) (K : T → Prop) : Prop := ∃ c w : List Int, ts = [.tup (c.map .int), .tup (w.map .int)] ∧ c.length = w.length ∧ 0 < c.length ∧ (∀ x ∈ w, 1 ≤ x) ∧ ∀ v, IsW (c.zip w) v → K (.int v)
theorem c_wa {c w : List Int} {K : T → Prop} (h : c.length = w.length) (h0 : 0 < c.length) (hw : ∀ x ∈ w, 1 ≤ x) (k : ∀ v, IsW (c.zip w) v → K (.int v)) : P_wa [.tup (c.map .int), .tup (w.map .int)] K := ⟨c, w, rfl, h, h0, hw, k⟩
theorem wsum_zip {c w : List Int} (h : c.length = w.length) : wsum (c.zip w) = w.sum := by
  unfold wsum
  rw [List.map_snd_zip (by omega)]
section
variable {Φ : Nat → Spec}
theorem v_weighted_answer : VC Φ [false, false] P_wa il_weighted_answer 5 := by
  rintro ts Q - - ⟨c, w, rfl, hl, h0, hw, q⟩
  show wpSs Φ il_weighted_answer _ [some (.tup (c.map .int)), some (.tup (w.map .int)), none, none, none]
  unfold il_weighted_answer
  have fc := isFs_ints (s := c)
  have fw := isFs_ints (s := w)
  walk_at "pl_vs"
  refine ⟨_, _, rfl, rfl, fc, fw, ?_⟩
  rw [zipT_ints, srtP_T]
  refine ⟨sortable_prT _, ?_⟩
  refine k_holdT rfl isFs_prT ?_
  have hp := srtP_perm (c.zip w)
  have hS := srtP_sorted (c.zip w)
  have hz : ∀ z ∈ c.zip w, 1 ≤ z.2 := fun z hz => hw _ (List.of_mem_zip hz).2
  have eS : wsum (srtP (c.zip w)) = w.sum := by rw [wsum_perm hp, wsum_zip hl]
  have lS : (srtP (c.zip w)).length = c.length := by rw [hp.length_eq, List.length_zip]; omega
  have hz' : ∀ z ∈ srtP (c.zip w), 1 ≤ z.2 := fun z m => hz z (hp.mem_iff.mp m)
  generalize hL : srtP (c.zip w) = L at *
  refine k_for (fun i Γ => 2 * wsum (L.take i) ≤ wsum L ∧ Γ = [some (.tup (c.map .int)), some (.tup (w.map .int)), some (.int (wsum (L.take i))), none, none]) ⟨by have := wsum_nn hz'; simp [wsum] at this ⊢; exact this, rfl⟩ ?_ ?_
  · rintro i x Γ hx ⟨ha, rfl⟩ again ag
    rw [List.getElem?_map] at hx
    obtain ⟨z, hz1, rfl⟩ := Option.map_eq_some_iff.mp hx
    have et : wsum (L.take i) + z.2 = wsum (L.take (i + 1)) := by
      rw [List.take_add_one, hz1, wsum_app]
      simp [wsum]
    refine k_bind (Γ2 := [some (.tup (c.map .int)), some (.tup (w.map .int)), some (.int (wsum (L.take i))), some (.int z.1), some (.int z.2)]) rfl ?_
    walk_at "pl_vs"
    rw [et]
    walk_at "pl_vs"
    refine b_sumT (intsT_ints w) ?_
    walk_at "pl_vs"
    · rename_i h
      exact q _ ((isW_at hS hz' hz1 (by rw [eS]; exact h) ha).perm hp)
    · rename_i h
      exact ag _ ⟨by rw [eS]; omega, rfl⟩
  · rintro Γ ⟨ha, rfl⟩
    exfalso
    rw [List.length_map, List.take_length] at ha
    have : 0 < L.length := by omega
    obtain ⟨z, r, rfl⟩ : ∃ z r, L = z :: r := by
      cases L with
      | nil => simp at this
      | cons z r => exact ⟨z, r, rfl⟩
    have h1 := hz' z List.mem_cons_self
    have h2 := wsum_nn fun y m => hz' y (List.mem_cons_of_mem z m)
    unfold wsum at ha h2
    rw [List.map_cons, List.sum_cons] at ha
    omega
end

/-! k84: the middle by weights, all fields; the law's way. -/
/-- v is the middle by weights in each field -/
def IsWM (xs : List Sheet) (w : List Int) (n : Nat) (v : Sheet) : Prop := v.length = n ∧ ∀ f a, v[f]? = some a → IsW ((col xs f).zip w) a
theorem IsWM.uniq {xs : List Sheet} {w : List Int} {n : Nat} {u v : Sheet} (a : IsWM xs w n u) (b : IsWM xs w n v) : u = v := by
  apply List.ext_getElem?
  intro f
  by_cases h : f < n
  · have h1 : u[f]? = some (u[f]'(by rw [a.1]; exact h)) := List.getElem?_eq_getElem _
    have h2 : v[f]? = some (v[f]'(by rw [b.1]; exact h)) := List.getElem?_eq_getElem _
    rw [h1, h2, (a.2 f _ h1).uniq (b.2 f _ h2)]
  · rw [List.getElem?_eq_none (by rw [a.1]; omega), List.getElem?_eq_none (by rw [b.1]; omega)]
def P_wm (ts : List T) (K : T → Prop) : Prop := ∃ xs n w, ts = [xsT xs, .tup (w.map .int)] ∧ xs ≠ [] ∧ (∀ x ∈ xs, x.length = n) ∧ xs.length ≤ 200 ∧ n ≤ 12 ∧ w.length = xs.length ∧ (∀ x ∈ w, 1 ≤ x) ∧ ∀ v, IsWM xs w n v → K (sT v)
theorem c_wm {xs : List Sheet} {n : Nat} {w : List Int} {K : T → Prop} (h0 : xs ≠ []) (h : ∀ x ∈ xs, x.length = n) (l1 : xs.length ≤ 200) (l2 : n ≤ 12) (lw : w.length = xs.length) (hw : ∀ x ∈ w, 1 ≤ x) (k : ∀ v, IsWM xs w n v → K (sT v)) : P_wm [xsT xs, .tup (w.map .int)] K := ⟨xs, n, w, rfl, h0, h, l1, l2, lw, hw, k⟩
theorem ints_inj : ∀ {a b : List Int}, a.map T.int = b.map T.int → a = b
  | [], [], _ => rfl
  | [], _ :: _, h => by cases h
  | _ :: _, [], h => by cases h
  | x :: a, y :: b, h => by
    rw [List.map_cons, List.map_cons] at h
    injection h with h1 h2
    injection h1 with h1
    rw [h1, ints_inj h2]
/-- ints by a relation -/
theorem rel_ints {n : Nat} {g : Nat → T} {R : Nat → Int → Prop} {ys : List T} (h : Rel2 (fun x y => ∃ f a, x = g f ∧ y = .int a ∧ R f a) ((List.range n).map g) ys) (gi : ∀ i j, i < n → j < n → g i = g j → i = j ∨ R i = R j) (gl : ∀ i f, i < n → g i = g f → R i = R f) : ∃ v : Sheet, ys = v.map .int ∧ v.length = n ∧ ∀ f a, v[f]? = some a → R f a := by
  refine ⟨ys.map fun t => match t with | .int i => i | _ => 0, ?_, by rw [List.length_map, h.1]; simp, ?_⟩
  · rw [List.map_map]
    symm
    refine (List.map_congr_left fun t ht => ?_).trans (List.map_id _)
    obtain ⟨i, hi⟩ := List.mem_iff_getElem?.mp ht
    have hl := (List.getElem?_eq_some_iff.mp hi).1
    rw [h.1] at hl
    obtain ⟨f, a, -, rfl, -⟩ := h.2 i _ t (List.getElem?_eq_getElem hl) hi
    rfl
  · intro f a hf
    rw [List.getElem?_map] at hf
    obtain ⟨t, ht, e⟩ := Option.map_eq_some_iff.mp hf
    have hl := (List.getElem?_eq_some_iff.mp ht).1
    rw [h.1] at hl
    have hl2 : f < n := by simpa using hl
    obtain ⟨f', a', e1, rfl, r⟩ := h.2 f _ t (List.getElem?_eq_getElem hl) ht
    rw [List.getElem_map, List.getElem_range] at e1
    cases e
    rw [gl f f' hl2 e1]
    exact r
section
variable {Φ : Nat → Spec}
theorem v_weighted_middle (h3 : Φ 3 = spF P_wa) : VC Φ [false, false] P_wm il_weighted_middle 3 := by
  rintro ts Q - - ⟨xs, n, w, rfl, h0, h, l1, l2, lw, hw, q⟩
  show wpSs Φ il_weighted_middle _ [some (xsT xs), some (.tup (w.map .int)), none]
  unfold il_weighted_middle
  have sl : sizeLine = 16777216 := rfl
  have fw := isFs_ints (s := w)
  have h1 : 0 < xs.length := List.length_pos_iff.mpr h0
  walk_at "pl_vs"
  refine zips_cols h0 h ?_
  refine k_cap (show _ ≤ sizeLine by rw [List.length_map, List.length_range]; omega) ?_
  refine k_lcR (fun x y => ∃ f a, x = .tup ((col xs f).map T.int) ∧ y = .int a ∧ IsW ((col xs f).zip w) a) (fun x hx Kk kk => ?_) ?_
  · obtain ⟨f, hf, rfl⟩ := List.mem_map.mp hx
    have fc := isFs_ints (s := col xs f)
    refine k_bind (Γ2 := [some (xsT xs), some (.tup (w.map .int)), some (.tup ((col xs f).map T.int))]) rfl ?_
    have lc : (col xs f).length = xs.length := by unfold col; rw [List.length_map]
    walk_at "pl_vs"
    refine c_wa (by omega) (by omega) hw fun v hv => ?_
    walk_at "pl_vs"
    exact kk _ _ ⟨f, v, rfl, rfl, hv⟩ rfl
  · intro ys hys
    obtain ⟨v, rfl, lv, hv⟩ := rel_ints (R := fun f a => IsW ((col xs f).zip w) a) hys (fun i j _ _ e => .inr (by
      have : col xs i = col xs j := ints_inj (T.tup.inj e)
      rw [this])) (fun i j _ e => by
      have : col xs i = col xs j := ints_inj (T.tup.inj e)
      rw [this])
    refine b_tupL isFs_ints ?_
    walk_at "pl_vs"
    exact q v ⟨lv, hv⟩
/-- the law's: weights may be a list -/
def P_lw (ts : List T) (K : T → Prop) : Prop := ∃ xs n w wT, ts = [xsT xs, wT] ∧ (wT = .tup (w.map .int) ∨ wT = .lst false (w.map .int)) ∧ xs ≠ [] ∧ (∀ x ∈ xs, x.length = n) ∧ xs.length ≤ 200 ∧ n ≤ 12 ∧ w.length = xs.length ∧ (∀ x ∈ w, 1 ≤ x) ∧ ∀ v, IsWM xs w n v → K (sT v)
theorem c_lw {xs : List Sheet} {n : Nat} {w : List Int} {K : T → Prop} (h0 : xs ≠ []) (h : ∀ x ∈ xs, x.length = n) (l1 : xs.length ≤ 200) (l2 : n ≤ 12) (lw : w.length = xs.length) (hw : ∀ x ∈ w, 1 ≤ x) (k : ∀ v, IsWM xs w n v → K (sT v)) : P_lw [xsT xs, .tup (w.map .int)] K := ⟨xs, n, w, _, rfl, .inl rfl, h0, h, l1, l2, lw, hw, k⟩
theorem c_lwL {xs : List Sheet} {n : Nat} {w : List Int} {K : T → Prop} (h0 : xs ≠ []) (h : ∀ x ∈ xs, x.length = n) (l1 : xs.length ≤ 200) (l2 : n ≤ 12) (lw : w.length = xs.length) (hw : ∀ x ∈ w, 1 ≤ x) (k : ∀ v, IsWM xs w n v → K (sT v)) : P_lw [xsT xs, .lst false (w.map .int)] K := ⟨xs, n, w, _, rfl, .inr rfl, h0, h, l1, l2, lw, hw, k⟩
/-- the least so far with more than half -/
def Best (l : List Pr) (c : List Int) : Option Int → Prop
  | none => ∀ u ∈ c, ¬ wsum l < 2 * upW l u
  | some v => v ∈ c ∧ wsum l < 2 * upW l v ∧ ∀ u ∈ c, wsum l < 2 * upW l u → v ≤ u
def oT : Option Int → T
  | none => .non
  | some v => .int v
theorem Best.no {l : List Pr} {c : List Int} {b : Option Int} (h : Best l c b) {x : Int} (hx : ¬ wsum l < 2 * upW l x) : Best l (c ++ [x]) b := by
  cases b with
  | none =>
    intro u hu
    rcases List.mem_append.mp hu with m | m
    · exact h u m
    · rw [List.mem_singleton.mp m]; exact hx
  | some v =>
    obtain ⟨h1, h2, h3⟩ := h
    refine ⟨List.mem_append_left _ h1, h2, fun u hu hU => ?_⟩
    rcases List.mem_append.mp hu with m | m
    · exact h3 u m hU
    · rw [List.mem_singleton.mp m] at hU; exact absurd hU hx
theorem Best.new {l : List Pr} {c : List Int} (h : Best l c none) {x : Int} (hx : wsum l < 2 * upW l x) : Best l (c ++ [x]) (some x) := by
  refine ⟨List.mem_append_right _ (List.mem_singleton.mpr rfl), hx, fun u hu hU => ?_⟩
  rcases List.mem_append.mp hu with m | m
  · exact absurd hU (h u m)
  · rw [List.mem_singleton.mp m]; exact Int.le_refl _
theorem Best.less {l : List Pr} {c : List Int} {v : Int} (h : Best l c (some v)) {x : Int} (hx : wsum l < 2 * upW l x) (hv : x < v) : Best l (c ++ [x]) (some x) := by
  obtain ⟨h1, h2, h3⟩ := h
  refine ⟨List.mem_append_right _ (List.mem_singleton.mpr rfl), hx, fun u hu hU => ?_⟩
  rcases List.mem_append.mp hu with m | m
  · have := h3 u m hU; omega
  · rw [List.mem_singleton.mp m]; exact Int.le_refl _
theorem Best.keep {l : List Pr} {c : List Int} {v : Int} (h : Best l c (some v)) {x : Int} (hv : ¬ x < v) : Best l (c ++ [x]) (some v) := by
  obtain ⟨h1, h2, h3⟩ := h
  refine ⟨List.mem_append_left _ h1, h2, fun u hu hU => ?_⟩
  rcases List.mem_append.mp hu with m | m
  · exact h3 u m hU
  · rw [List.mem_singleton.mp m]; omega
theorem exists_max : ∀ {c : List Int}, c ≠ [] → ∃ m ∈ c, ∀ u ∈ c, u ≤ m
  | [], h => absurd rfl h
  | [x], _ => ⟨x, List.mem_singleton.mpr rfl, fun u hu => by rw [List.mem_singleton.mp hu]; exact Int.le_refl _⟩
  | x :: y :: c, _ => by
    obtain ⟨m, hm, h⟩ := exists_max (c := y :: c) (by simp)
    by_cases hx : m ≤ x
    · refine ⟨x, List.mem_cons_self, fun u hu => ?_⟩
      rcases List.mem_cons.mp hu with e | e
      · rw [e]; exact Int.le_refl _
      · exact Int.le_trans (h u e) hx
    · refine ⟨m, List.mem_cons_of_mem _ hm, fun u hu => ?_⟩
      rcases List.mem_cons.mp hu with e | e
      · rw [e]; omega
      · exact h u e
theorem Best.isW {c w : List Int} (hl : c.length = w.length) (h0 : 0 < c.length) (hw : ∀ x ∈ w, 1 ≤ x) {b : Option Int} (h : Best (c.zip w) c b) : ∃ v, b = some v ∧ IsW (c.zip w) v := by
  have em : (c.zip w).map (·.1) = c := List.map_fst_zip (by omega)
  cases b with
  | some v =>
    refine ⟨v, rfl, ?_⟩
    unfold IsW
    rw [em]
    exact h
  | none =>
    exfalso
    obtain ⟨m, hm, hM⟩ := exists_max (c := c) (by intro e; rw [e] at h0; simp at h0)
    refine h m hm ?_
    have e : upW (c.zip w) m = wsum (c.zip w) := by
      unfold upW
      rw [List.filter_eq_self.mpr fun z hz => by simpa using hM _ (List.of_mem_zip hz).1]
    have hz : ∀ z ∈ c.zip w, 1 ≤ z.2 := fun z hz => hw _ (List.of_mem_zip hz).2
    rw [e]
    have hlz : 0 < (c.zip w).length := by rw [List.length_zip]; omega
    generalize c.zip w = l at *
    cases l with
    | nil => simp at hlz
    | cons z l =>
      have h1 := hz z List.mem_cons_self
      have h2 := wsum_nn fun y m => hz y (List.mem_cons_of_mem z m)
      unfold wsum at h2 ⊢
      rw [List.map_cons, List.sum_cons]
      omega
theorem filt_ints (g : Nat → Pr) (p : Pr → Bool) : ∀ l : List Nat, l.filterMap (fun k => if p (g k) = true then some (T.int (g k).2) else none) = ((l.map g).filter p).map fun z => T.int z.2
  | [] => rfl
  | k :: l => by
    rw [List.filterMap_cons, List.map_cons, List.filter_cons, filt_ints g p l]
    cases h : p (g k) <;> simp
theorem zip_getD {c w : List Int} (h : c.length = w.length) : c.zip w = (List.range c.length).map fun k => (c.getD k 0, w.getD k 0) := by
  apply List.ext_getElem?
  intro i
  by_cases hi : i < c.length
  · rw [List.getElem?_map, List.getElem?_range hi, List.getElem?_eq_getElem (by rw [List.length_zip]; omega)]
    simp [hi, show i < w.length by omega]
  · rw [List.getElem?_eq_none (by rw [List.length_zip]; omega), List.getElem?_eq_none (by simp; omega)]
theorem up_eq {c w : List Int} (h : c.length = w.length) (v : Int) : ((List.range c.length).map fun (k : Nat) => T.int k).filterMap (fun x => match x with | .int a => if decide (c.getD a.toNat 0 ≤ v) = true then some (T.int (w.getD a.toNat 0)) else none | _ => none) = (((c.zip w).filter fun z => decide (z.1 ≤ v)).map (·.2)).map T.int := by
  rw [List.filterMap_map, zip_getD h, List.map_map]
  exact filt_ints (fun k : Nat => (c.getD k 0, w.getD k 0)) (fun z => decide (z.1 ≤ v)) (List.range c.length)
end
local macro_rules | `(tactic| walk_at "pl_vc1") => `(tactic| first
  | ((with_reducible apply k_nonT); (focus exact rfl)) | ((with_reducible apply k_nonF); (focus exact rfl)) | ((with_reducible apply k_nnonT); (focus exact rfl)) | ((with_reducible apply k_nnonF); (focus exact rfl)))
section
variable {Φ : Nat → Spec}
theorem v_law_weighted : VC Φ [false, false] P_lw il__law_weighted 8 := by
  rintro ts Q - - ⟨xs, n, w, wT, rfl, hwT, h0, h, l1, l2, lw, hw, q⟩
  show wpSs Φ il__law_weighted _ [some (xsT xs), some wT, none, none, none, none, none, none]
  unfold il__law_weighted
  have sl : sizeLine = 16777216 := rfl
  have iw : ∀ a : Nat, a < w.length → idxT wT (.int a) = some (.int (w.getD a 0)) := fun a ha => by
    rcases hwT with rfl | rfl
    · exact at_sT (s := w) (i := a) (by omega) (by omega)
    · exact at_sT (s := w) (i := a) (by omega) (by omega)
  have sw : ∀ R : T → Prop, R (.int w.sum) → biP .sum wT R := fun R r => by
    rcases hwT with rfl | rfl
    · exact b_sumT (intsT_ints w) r
    · exact b_sum (intsT_ints w) r
  have fwT : isF wT = true := by
    rcases hwT with rfl | rfl
    · exact isF_tup isFs_ints
    · exact isF_lst isFs_ints
  clear hwT
  obtain ⟨x0, xr, ex⟩ : ∃ x r, xs = x :: r := by
    cases xs with
    | nil => exact absurd rfl h0
    | cons x r => exact ⟨x, r, rfl⟩
  have hx0 : x0.length = n := h x0 (by rw [ex]; exact List.mem_cons_self)
  have h1 : 0 < xs.length := List.length_pos_iff.mpr h0
  have i0 : idxT (xsT xs) (.int 0) = some (sT x0) := by rw [ex]; exact L2.atI_nat (j := 0) rfl
  have ixs : ∀ (a : Nat) (ha : a < xs.length), idxT (xsT xs) (.int a) = some (sT xs[a]) := fun a ha => L2.atI_nat (by simp [ha])
  walk_at "pl_vs"
  refine ⟨by omega, by simp; omega, ?_⟩
  refine k_for (fun i Γ => ∃ acc : List Int, acc.length = i ∧ (∀ f a, acc[f]? = some a → IsW ((col xs f).zip w) a) ∧ Γ = [some (xsT xs), some wT, some (.lst true (acc.map .int)), none, none, none, none, none]) ⟨[], rfl, fun f a e => by simp at e, rfl⟩ ?_ ?_
  · rintro f x Γ hx ⟨acc, la, ha, rfl⟩ again ag
    obtain ⟨hf, rfl⟩ := rng0_get hx
    have hf : f < n := by simpa [hx0] using hf
    have lc : (col xs f).length = w.length := by unfold col; rw [List.length_map]; omega
    have lc2 : (col xs f).length = xs.length := by unfold col; rw [List.length_map]
    have la2 : (acc.map T.int).length < sizeLine := by rw [List.length_map]; omega
    have cg : ∀ (a : Nat) (ha : a < xs.length), (col xs f).getD a 0 = xs[a].getD f 0 := fun a ha => by unfold col; simp [ha]
    have gf : ∀ x ∈ xs, ∀ K : T → Prop, K (.int (x.getD f 0)) → kIdx (sT x) (.int (f : Int)) K := fun x hx K k => k_iS (by omega) (by have := h x hx; omega) k
    walk_at "pl_vs"
    refine k_for (fun j Γ => ∃ b, Best ((col xs f).zip w) ((col xs f).take j) b ∧ Γ = [some (xsT xs), some wT, some (.lst true (acc.map .int)), some (.int (f : Int)), some (oT b), none, none, none]) ⟨none, by simp [Best], rfl⟩ ?_ ?_
    · rintro j y Γ hy ⟨b, hb, rfl⟩ again2 ag2
      rw [List.getElem?_map] at hy
      obtain ⟨s, hs, rfl⟩ := Option.map_eq_some_iff.mp hy
      have ms := List.mem_of_getElem? hs
      have ct : (col xs f).take (j + 1) = (col xs f).take j ++ [s.getD f 0] := by
        rw [List.take_add_one]
        congr 1
        unfold col
        rw [List.getElem?_map, hs]
        rfl
      walk_at "pl_vs"
      refine ⟨by omega, by simp; omega, ?_⟩
      refine k_cap (show _ ≤ sizeLine by simp; omega) ?_
      refine k_lc (fun x => match x with | .int a => if decide ((col xs f).getD a.toNat 0 ≤ s.getD f 0) = true then some (T.int (w.getD a.toNat 0)) else none | _ => none) (fun x hx Kk kk => ?_) ?_
      · obtain ⟨a, ha2, rfl⟩ := List.mem_map.mp hx
        have ha2 : a < xs.length := by simpa using ha2
        have k2 := kk [some (xsT xs), some wT, some (.lst true (acc.map .int)), some (.int (f : Int)), some (oT b), some (sT s), none, some (.int (a : Int))] rfl
        simp only [Int.toNat_natCast, cg a ha2] at k2
        refine k_bind (Γ2 := [some (xsT xs), some wT, some (.lst true (acc.map .int)), some (.int (f : Int)), some (oT b), some (sT s), none, some (.int (a : Int))]) rfl ?_
        walk_at "pl_vs"
        refine k_idx (ixs a ha2) isF_sT ?_
        walk_at "pl_vs"
        refine gf _ (List.getElem_mem ha2) _ ?_
        walk_at "pl_vs"
        refine gf _ ms _ ?_
        walk_at "pl_vs"
        · rename_i hle
          rw [if_pos (decide_eq_true hle)] at k2
          refine k_idx (iw a (by omega)) rfl ?_
          walk_at "pl_vs"
          exact k2
        · rename_i hle
          rw [if_neg (by simpa using hle)] at k2
          exact k2
      rw [List.length_map, Int.toNat_natCast, ← lc2, up_eq lc]
      refine b_sum (intsT_ints _) ?_
      have eu : (((((col xs f).zip w).filter fun z => decide (z.1 ≤ s.getD f 0)).map (·.2)).sum) = upW ((col xs f).zip w) (s.getD f 0) := rfl
      rw [eu]
      have ew : wsum ((col xs f).zip w) = w.sum := wsum_zip lc
      refine k_bind (Γ2 := [some (xsT xs), some wT, some (.lst true (acc.map .int)), some (.int (f : Int)), some (oT b), some (sT s), some (.int (upW ((col xs f).zip w) (s.getD f 0))), none]) rfl ?_
      have fin : ∀ b', Best ((col xs f).zip w) ((col xs f).take (j + 1)) b' → again2 [some (xsT xs), some wT, some (.lst true (acc.map .int)), some (.int (f : Int)), some (oT b'), none, none, none] := fun b' h => ag2 _ ⟨b', h, rfl⟩
      rw [ct] at fin
      cases b with
      | none =>
        simp only [oT]
        walk_at "pl_vs"
        refine sw _ ?_
        walk_at "pl_vs"
        · rename_i hu
          rw [← ew] at hu
          refine gf _ ms _ ?_
          walk_at "pl_vs"
          exact fin (some (s.getD f 0)) (hb.new hu)
        · rename_i hu
          rw [← ew] at hu
          exact fin none (hb.no hu)
      | some v =>
        simp only [oT]
        walk_at "pl_vs"
        refine sw _ ?_
        walk_at "pl_vs"
        · rename_i hu
          rw [← ew] at hu
          refine gf _ ms _ ?_
          walk_at "pl_vs"
          · rename_i hlt
            refine gf _ ms _ ?_
            walk_at "pl_vs"
            exact fin (some (s.getD f 0)) (hb.less hu hlt)
          · rename_i hlt
            exact fin (some v) (hb.keep hlt)
        · rename_i hu
          rw [← ew] at hu
          exact fin (some v) (hb.no hu)
    · rintro Γ ⟨b, hb, rfl⟩
      rw [List.length_map, ← lc2, List.take_length] at hb
      obtain ⟨v, rfl, hv⟩ := hb.isW lc (by omega) hw
      show wpSs _ _ _ [_, _, _, _, some (.int v), _, _, _]
      walk_at "pl_vs"
      refine ag _ ⟨acc ++ [v], by simp [la], fun f' a e => ?_, by simp⟩
      by_cases hlt : f' < acc.length
      · rw [List.getElem?_append_left hlt] at e
        exact ha f' a e
      · rw [List.getElem?_append_right (by omega)] at e
        have : f' = f := by
          have := (List.getElem?_eq_some_iff.mp e).1
          simp at this
          omega
        subst this
        rw [la, Nat.sub_self] at e
        cases e
        exact hv
  · rintro Γ ⟨acc, la, ha, rfl⟩
    have fi := isFs_ints (s := acc)
    walk_at "pl_vs"
    refine q acc ⟨?_, ha⟩
    rw [la]
    simp [hx0]
end

/-! k84: the very value due. -/
mutual
def sameT : T → T → Bool
  | t, .non => isNon t
  | t, .bl b => match t with
    | .bl a => a == b
    | _ => false
  | t, .int j => match t with
    | .int i => decide (i = j)
    | _ => false
  | t, .str y => match t with
    | .str x => decide (x = y)
    | _ => false
  | t, .tup ys => match t with
    | .tup xs => sameTs xs ys
    | _ => false
  | t, .lst _ ys => match t with
    | .lst _ xs => sameTs xs ys
    | _ => false
  | _, .dic _ _ _ => false
  | _, .scr _ => false
def sameTs : List T → List T → Bool
  | [], [] => true
  | x :: xs, y :: ys => sameT x y && sameTs xs ys
  | _, _ => false
end
mutual
/-- values that _law_same may look at -/
def okS : T → Bool
  | .non => true
  | .bl _ => true
  | .int _ => true
  | .str x => shp (.str x)
  | .tup xs => okSs xs
  | .lst o xs => !o && okSs xs
  | .dic _ _ _ => false
  | .scr _ => false
def okSs : List T → Bool
  | [] => true
  | x :: xs => okS x && okSs xs
end
mutual
def sz : T → Nat
  | .tup xs => 1 + szs xs
  | .lst _ xs => 1 + szs xs
  | _ => 1
def szs : List T → Nat
  | [] => 0
  | x :: xs => sz x + szs xs
end
mutual
theorem okS_F : ∀ {t : T}, okS t = true → isF t = true
  | .non, _ => rfl
  | .bl _, _ => rfl
  | .int _, _ => rfl
  | .str _, _ => rfl
  | .tup xs, h => by simp only [okS] at h; simp only [isF]; exact okSs_F h
  | .lst o xs, h => by
    simp only [okS, Bool.and_eq_true] at h
    simp only [isF, Bool.and_eq_true]
    exact ⟨h.1, okSs_F h.2⟩
  | .dic _ _ _, h => by simp [okS] at h
  | .scr _, h => by simp [okS] at h
theorem okSs_F : ∀ {xs : List T}, okSs xs = true → isFs xs = true
  | [], _ => rfl
  | x :: xs, h => by
    simp only [okSs, Bool.and_eq_true] at h
    simp only [isFs, Bool.and_eq_true]
    exact ⟨okS_F h.1, okSs_F h.2⟩
end
mutual
theorem sameT_eq : ∀ (d t : T), okS d = true → okS t = true → (sameT t d = true ↔ t = d)
  | .non, t, _, _ => by cases t <;> simp [sameT, isNon]
  | .bl b, t, _, _ => by cases t <;> simp [sameT]
  | .int j, t, _, _ => by cases t <;> simp [sameT]
  | .str y, t, _, _ => by cases t <;> simp [sameT]
  | .tup ys, t, hd, ht => by
    simp only [okS] at hd
    cases t
    case tup xs =>
      simp only [okS] at ht
      simp only [sameT, sameTs_eq ys xs hd ht, T.tup.injEq]
    all_goals simp [sameT]
  | .lst o ys, t, hd, ht => by
    simp only [okS, Bool.and_eq_true, Bool.not_eq_true'] at hd
    cases t
    case lst p xs =>
      simp only [okS, Bool.and_eq_true, Bool.not_eq_true'] at ht
      simp only [sameT, sameTs_eq ys xs hd.2 ht.2, T.lst.injEq, hd.1, ht.1, true_and]
    all_goals simp [sameT]
  | .dic _ _ _, t, hd, _ => by simp [okS] at hd
  | .scr _, t, hd, _ => by simp [okS] at hd
theorem sameTs_eq : ∀ (ys xs : List T), okSs ys = true → okSs xs = true → (sameTs xs ys = true ↔ xs = ys)
  | [], xs, _, _ => by cases xs <;> simp [sameTs]
  | y :: ys, [], _, _ => by simp [sameTs]
  | y :: ys, x :: xs, hd, ht => by
    simp only [okSs, Bool.and_eq_true] at hd ht
    simp only [sameTs, Bool.and_eq_true, sameT_eq y x hd.1 ht.1, sameTs_eq ys xs hd.2 ht.2, List.cons.injEq]
end
theorem sameT_self {t : T} (h : okS t = true) : sameT t t = true := (sameT_eq t t h h).mpr rfl
abbrev TT := T × T
def ttT (p : TT) : T := .tup [p.1, p.2]
def okP (p : TT) : Prop := okS p.1 = true ∧ okS p.2 = true
def szL (ps : List TT) : Nat := (ps.map fun p => sz p.2).sum
def allP (ps : List TT) : Bool := ps.all fun p => sameT p.1 p.2
theorem sz_pos : ∀ t : T, 1 ≤ sz t := fun t => by cases t <;> simp only [sz] <;> omega
theorem szL_len : ∀ ps : List TT, ps.length ≤ szL ps
  | [] => Nat.le_refl _
  | p :: ps => by
    have h1 := sz_pos p.2
    have h2 := szL_len ps
    unfold szL at h2 ⊢
    rw [List.map_cons, List.sum_cons, List.length_cons]
    omega
theorem szL_app (a b : List TT) : szL (a ++ b) = szL a + szL b := by unfold szL; rw [List.map_append, List.sum_append]
theorem szs_zip : ∀ {xs ys : List T}, xs.length = ys.length → szL (xs.zip ys) = szs ys
  | [], [], _ => rfl
  | x :: xs, y :: ys, h => by
    have := szs_zip (xs := xs) (ys := ys) (by simpa using h)
    unfold szL at this ⊢
    rw [List.zip_cons_cons, List.map_cons, List.sum_cons, this, szs]
theorem sameTs_zip : ∀ {xs ys : List T}, xs.length = ys.length → sameTs xs ys = allP (xs.zip ys)
  | [], [], _ => rfl
  | x :: xs, y :: ys, h => by
    have := sameTs_zip (xs := xs) (ys := ys) (by simpa using h)
    unfold allP at this ⊢
    rw [List.zip_cons_cons, List.all_cons, ← this, sameTs]
theorem sameTs_len : ∀ {xs ys : List T}, ¬ xs.length = ys.length → sameTs xs ys = false
  | [], [], h => absurd rfl h
  | [], y :: ys, _ => rfl
  | x :: xs, [], _ => rfl
  | x :: xs, y :: ys, h => by rw [sameTs, sameTs_len (by simpa using h), Bool.and_false]
theorem okSs_mem : ∀ {xs : List T}, okSs xs = true → ∀ x ∈ xs, okS x = true
  | [], _, _, m => by cases m
  | x :: xs, h, y, m => by
    simp only [okSs, Bool.and_eq_true] at h
    rcases List.mem_cons.mp m with e | e
    · rw [e]; exact h.1
    · exact okSs_mem h.2 y e
theorem okP_zip {xs ys : List T} (hx : okSs xs = true) (hy : okSs ys = true) : ∀ p ∈ xs.zip ys, okP p := fun p hp => ⟨okSs_mem hx _ (List.of_mem_zip hp).1, okSs_mem hy _ (List.of_mem_zip hp).2⟩
theorem isFs_ttT : ∀ {ps : List TT}, (∀ p ∈ ps, okP p) → isFs (ps.map ttT) = true := fun {ps} h => by
  rw [isFs_all, List.all_eq_true]
  intro t ht
  obtain ⟨p, hp, rfl⟩ := List.mem_map.mp ht
  have := h p hp
  exact isF_tup (isFs_cons (okS_F this.1) (isFs_cons (okS_F this.2) rfl))
def P_same (ts : List T) (K : T → Prop) : Prop := ∃ t d, ts = [t, d] ∧ okS t = true ∧ okS d = true ∧ sz d ≤ 1000000 ∧ K (.bl (sameT t d))
theorem c_same {t d : T} {K : T → Prop} (ht : okS t = true) (hd : okS d = true) (l : sz d ≤ 1000000) (k : K (.bl (sameT t d))) : P_same [t, d] K := ⟨t, d, rfl, ht, hd, l, k⟩
/-- .. of one and the same -/
theorem c_sameR {d : T} {K : T → Prop} (hd : okS d = true) (l : sz d ≤ 1000000) (k : K (.bl true)) : P_same [d, d] K := ⟨d, d, rfl, hd, hd, l, by rw [sameT_self hd]; exact k⟩
theorem eqT_bl {a b : Bool} : eqT (.bl a) (.bl b) = (a == b) := by cases a <;> cases b <;> rfl
theorem r_eqB {a b : Bool} {K : Bool → Prop} (k : K (a == b)) : rlP .eq (.bl a) (.bl b) K := ⟨rfl, rfl, by rw [eqT_bl]; exact k⟩
local macro_rules | `(tactic| walk_at "pl_vc1") => `(tactic| first
  | ((with_reducible apply k_tyT); (focus exact rfl)) | ((with_reducible apply k_tyF); (focus exact rfl)) | ((with_reducible apply k_ntyT); (focus exact rfl)) | ((with_reducible apply k_ntyF); (focus exact rfl)) | with_reducible apply r_eqB)
theorem no_bl {t : T} {b : Bool} (h : (!isTy .bool t) = true) : sameT t (.bl b) = false := by cases t <;> simp_all [isTy, sameT]
theorem no_int1 {t : T} {b : Int} (h : isTy .bool t = true) : sameT t (.int b) = false := by cases t <;> simp_all [isTy, sameT]
theorem no_int2 {t : T} {b : Int} (h : (!isTy .int t) = true) : sameT t (.int b) = false := by cases t <;> simp_all [isTy, sameT]
theorem no_str {t : T} {b : Str} (h : (!isTy .str t) = true) : sameT t (.str b) = false := by cases t <;> simp_all [isTy, sameT]
theorem no_tup {t : T} {b : List T} (h : (!isTy .tuple t) = true) : sameT t (.tup b) = false := by cases t <;> simp_all [isTy, sameT]
theorem no_lst {t : T} {o : Bool} {b : List T} (h : (!isTy .list t) = true) : sameT t (.lst o b) = false := by cases t <;> simp_all [isTy, sameT]
section
variable {Φ : Nat → Spec}
theorem v_same : VC Φ [false, false] P_same il__law_same 6 := by
  rintro ts Q - - ⟨t0, d0, rfl, ht, hd, hl, q⟩
  show wpSs Φ il__law_same _ [some t0, some d0, none, none, none, none]
  unfold il__law_same
  have sl : sizeLine = 16777216 := rfl
  have f1 := okS_F ht
  have f2 := okS_F hd
  walk_at "pl_vs"
  refine s_whl (m := sz d0) (fun m Γ => ∃ ps : List TT, (∀ p ∈ ps, okP p) ∧ sameT t0 d0 = allP ps ∧ szL ps ≤ m ∧ m ≤ sz d0 ∧ Γ = [some t0, some d0, some (.lst true (ps.map ttT)), none, none, none]) ⟨[(t0, d0)], fun p hp => by rw [List.mem_singleton.mp hp]; exact ⟨ht, hd⟩, by simp [allP], by simp [szL], Nat.le_refl _, rfl⟩ ?_
  rintro m Γ ⟨ps, hps, hs, hz, hm, rfl⟩ again ag
  rcases List.eq_nil_or_concat ps with rfl | ⟨qs, p, rfl⟩
  · have : sameT t0 d0 = true := hs
    rw [this] at q
    walk_at "pl_vs"
    · rename_i h
      exact absurd h (by simp)
    · exact q
  · rw [List.concat_eq_append] at hps hs hz ⊢
    have hp := hps p (List.mem_append_right _ (List.mem_singleton.mpr rfl))
    have hqs : ∀ p ∈ qs, okP p := fun p h => hps p (List.mem_append_left _ h)
    have hq := isFs_ttT hqs
    obtain ⟨t, d⟩ := p
    obtain ⟨ot, od⟩ := hp
    simp only at ot od
    have ft := okS_F ot
    have fd := okS_F od
    rw [szL_app] at hz
    replace hs : sameT t0 d0 = (allP qs && sameT t d) := by rw [hs]; unfold allP; rw [List.all_append]; simp
    replace hz : szL qs + sz d ≤ m := by simpa [szL] using hz
    have zp := sz_pos d
    rw [List.map_append, List.map_cons, List.map_nil]
    have one : ∀ {Γ}, sameT t d = true → Γ = [some t0, some d0, some (.lst true (qs.map ttT)), none, none, none] → again Γ := fun {Γ} h e => ag (szL qs) _ (by omega) ⟨qs, hqs, by rw [hs, h, Bool.and_true], Nat.le_refl _, by omega, e⟩
    have no : sameT t d = false → Q (.bl false) [] := fun h => by rw [hs, h, Bool.and_false] at q; exact q
    have more : ∀ {xs ys : List T} {Γ}, okSs xs = true → okSs ys = true → xs.length = ys.length → sz d = 1 + szs ys → sameT t d = sameTs xs ys → Γ = [some t0, some d0, some (.lst true (qs.map ttT ++ (xs.zip ys).map ttT)), none, none, none] → again Γ := fun {xs ys Γ} h1 h2 h3 h4 h5 e =>
      ag (szL (qs ++ xs.zip ys)) _ (by rw [szL_app, szs_zip h3]; omega) ⟨qs ++ xs.zip ys, fun p hp => by
        rcases List.mem_append.mp hp with h | h
        · exact hqs p h
        · exact okP_zip h1 h2 p h, by rw [hs, h5, sameTs_zip h3]; unfold allP; rw [List.all_append], Nat.le_refl _, by rw [szL_app, szs_zip h3]; omega, by rw [e, List.map_append]⟩
    have body : ∀ (xs ys : List T) (j : Nat), xs.length = ys.length → sz d = 1 + szs ys → j < ys.length → (qs.map ttT ++ ((xs.zip ys).take j).map ttT).length < sizeLine := fun xs ys j h1 h2 h3 => by
      have h4 := szL_len qs
      have h5 := szL_len (xs.zip ys)
      rw [szs_zip h1] at h5
      have h6 : (xs.zip ys).length = ys.length := by rw [List.length_zip]; omega
      rw [List.length_append, List.length_map, List.length_map, List.length_take]
      omega
    refine c_val ?_
    refine w_var rfl ?_
    refine k_tru (c := true) (by simp [tru]) ?_
    walk_at "pl_vs"
    refine w_pop (y := ttT (t, d)) rfl (by simp) (isFs_app hq (isFs_cons (isF_tup (isFs_cons ft (isFs_cons fd rfl))) rfl)) ?_
    rw [List.dropLast_concat]
    refine k_bind (Γ2 := [some t0, some d0, some (.lst true (qs.map ttT)), some t, some d, none]) rfl ?_
    cases d
    case non =>
      show wpSs _ _ _ _
      walk_at "pl_vs"
      · rename_i h
        exact no (by simpa [sameT] using h)
      · rename_i h
        exact one (by simpa [sameT] using h) rfl
    case bl b =>
      walk_at "pl_vs"
      · rename_i h
        exact no (no_bl h)
      · rename_i h
        cases t
        case bl a =>
          walk_at "pl_vs"
          · rename_i h; exact no (by simpa [sameT] using h)
          · rename_i h; exact one (by simpa [sameT] using h) rfl
        all_goals exact absurd h (by simp [isTy])
    case int b =>
      walk_at "pl_vs"
      · rename_i h
        exact no (no_int1 h)
      · rename_i h
        exact no (no_int2 h)
      · rename_i h1 h2
        cases t
        case int a =>
          walk_at "pl_vs"
          · rename_i h; exact no (by simpa [sameT] using h)
          · rename_i h; exact one (by simpa [sameT] using h) rfl
        case bl a => exact absurd h1 (by simp [isTy])
        all_goals exact absurd h2 (by simp [isTy])
    case str b =>
      have sb : shp (.str b) = true := by simpa [okS] using od
      walk_at "pl_vs"
      · rename_i h
        exact no (no_str h)
      · rename_i h
        cases t
        case str a =>
          have sa : shp (.str a) = true := by simpa [okS] using ot
          walk_at "pl_vs"
          · rename_i h; exact no (by simpa [sameT] using h)
          · rename_i h; exact one (by simpa [sameT] using h) rfl
        all_goals exact absurd h (by simp [isTy])
    case tup ys =>
      have oy : okSs ys = true := by simpa [okS] using od
      have fy := okSs_F oy
      walk_at "pl_vs"
      · rename_i h
        exact no (no_tup h)
      · rename_i h
        cases t
        case tup xs =>
          have ox : okSs xs = true := by simpa [okS] using ot
          have fx := okSs_F ox
          walk_at "pl_vs"
          · rename_i h; exact no (by simp only [sameT]; exact sameTs_len fun e => h (by rw [e]))
          · rename_i h
            have h : xs.length = ys.length := by omega
            have zy : szs ys < 1000000 := by simp only [sz] at hz; omega
            have ly : ys.length ≤ szs ys := by rw [← szs_zip h]; refine Nat.le_trans ?_ (szL_len _); rw [List.length_zip]; omega
            refine ⟨by omega, by omega, ?_⟩
            refine k_for (fun j Γ => Γ = [some t0, some d0, some (.lst true (qs.map ttT ++ ((xs.zip ys).take j).map ttT)), some (.tup xs), some (.tup ys), none]) (by simp) ?_ ?_
            · rintro j z Γ hx rfl again2 ag2
              obtain ⟨hj, rfl⟩ := rng0_get hx
              have hj : j < ys.length := by simpa using hj
              have hjx : j < xs.length := by omega
              have bl := body xs ys j h (by simp only [sz]) hj
              walk_at "pl_vs"
              refine k_idx (v := xs[j]) (L2.atI_nat (by simp [hjx])) (okS_F (okSs_mem ox _ (List.getElem_mem hjx))) ?_
              walk_at "pl_vs"
              refine k_idx (v := ys[j]) (L2.atI_nat (by simp [hj])) (okS_F (okSs_mem oy _ (List.getElem_mem hj))) ?_
              have gx := okS_F (okSs_mem ox _ (List.getElem_mem hjx))
              have gy := okS_F (okSs_mem oy _ (List.getElem_mem hj))
              walk_at "pl_vs"
              refine ag2 _ ?_
              have ez : (xs.zip ys)[j]? = some (xs[j], ys[j]) := List.getElem?_zip_eq_some.mpr ⟨List.getElem?_eq_getElem hjx, List.getElem?_eq_getElem hj⟩
              rw [List.take_add_one, ez]
              simp [ttT]
            · rintro Γ rfl
              walk_at "pl_vs"
              refine more ox oy h (by simp only [sz]) (by simp only [sameT]) ?_
              rw [List.take_of_length_le (by simp; omega)]
        all_goals exact absurd h (by simp [isTy])
    case lst o ys =>
      have oy : o = false ∧ okSs ys = true := by simpa [okS] using od
      obtain ⟨rfl, oy⟩ := oy
      have fy := okSs_F oy
      walk_at "pl_vs"
      · rename_i h
        exact no (no_lst h)
      · rename_i h
        cases t
        case lst o xs =>
          have ox : o = false ∧ okSs xs = true := by simpa [okS] using ot
          obtain ⟨rfl, ox⟩ := ox
          have fx := okSs_F ox
          walk_at "pl_vs"
          · rename_i h; exact no (by simp only [sameT]; exact sameTs_len fun e => h (by rw [e]))
          · rename_i h
            have h : xs.length = ys.length := by omega
            have zy : szs ys < 1000000 := by simp only [sz] at hz; omega
            have ly : ys.length ≤ szs ys := by rw [← szs_zip h]; refine Nat.le_trans ?_ (szL_len _); rw [List.length_zip]; omega
            refine ⟨by omega, by omega, ?_⟩
            refine k_for (fun j Γ => Γ = [some t0, some d0, some (.lst true (qs.map ttT ++ ((xs.zip ys).take j).map ttT)), some (.lst false xs), some (.lst false ys), none]) (by simp) ?_ ?_
            · rintro j z Γ hx rfl again2 ag2
              obtain ⟨hj, rfl⟩ := rng0_get hx
              have hj : j < ys.length := by simpa using hj
              have hjx : j < xs.length := by omega
              have bl := body xs ys j h (by simp only [sz]) hj
              walk_at "pl_vs"
              refine k_idx (v := xs[j]) (L2.atI_nat (by simp [hjx])) (okS_F (okSs_mem ox _ (List.getElem_mem hjx))) ?_
              walk_at "pl_vs"
              refine k_idx (v := ys[j]) (L2.atI_nat (by simp [hj])) (okS_F (okSs_mem oy _ (List.getElem_mem hj))) ?_
              have gx := okS_F (okSs_mem ox _ (List.getElem_mem hjx))
              have gy := okS_F (okSs_mem oy _ (List.getElem_mem hj))
              walk_at "pl_vs"
              refine ag2 _ ?_
              have ez : (xs.zip ys)[j]? = some (xs[j], ys[j]) := List.getElem?_zip_eq_some.mpr ⟨List.getElem?_eq_getElem hjx, List.getElem?_eq_getElem hj⟩
              rw [List.take_add_one, ez]
              simp [ttT]
            · rintro Γ rfl
              walk_at "pl_vs"
              refine more ox oy h (by simp only [sz]) (by simp only [sameT]) ?_
              rw [List.take_of_length_le (by simp; omega)]
        case scr ns => exact absurd ot (by simp [okS])
        all_goals exact absurd h (by simp [isTy])
    all_goals exact absurd od (by simp [okS])
end

/-! k84: tools for a lent pool; fields, counts. -/
section
variable {Φ : Nat → Spec} {Q : T → Env → Prop}
theorem k_lend0 {φ : Spec} {es : Es} {ts p : List T} {Γr : Env} {P : List T → (T → Prop) → Prop} (hφ : φ = spL Pool P) (g : Pool p) (af : argsF es ts = true)
    (q : P ts fun v => ∀ p', Pool p' → Q v (some (.lst true p') :: Γr)) : kLend φ 0 es ts (some (.lst true p) :: Γr) Q := by
  refine k_lend hφ rfl g af ?_
  have e : (fun v => ∀ p', Pool p' → [T.lst true p'].length = 1 ∧ Q v (((some (.lst true p) :: Γr).set 0 none).set 0 (some (.lst true p')))) = fun v => ∀ p', Pool p' → Q v (some (.lst true p') :: Γr) := by
    funext v
    simp
  rw [e]
  exact q
theorem k_lend1 {φ : Spec} {es : Es} {ts p : List T} {x : Option T} {Γr : Env} {P : List T → (T → Prop) → Prop} (hφ : φ = spL Pool P) (g : Pool p) (af : argsF es ts = true)
    (q : P ts fun v => ∀ p', Pool p' → Q v (x :: some (.lst true p') :: Γr)) : kLend φ 1 es ts (x :: some (.lst true p) :: Γr) Q := by
  refine k_lend hφ rfl g af ?_
  have e : (fun v => ∀ p', Pool p' → [T.lst true p'].length = 1 ∧ Q v (((x :: some (.lst true p) :: Γr).set 1 none).set 1 (some (.lst true p')))) = fun v => ∀ p', Pool p' → Q v (x :: some (.lst true p') :: Γr) := by
    funext v
    simp
  rw [e]
  exact q
theorem k_pick0 {φ : Spec} {es : Es} {p : List T} {m : Int} {Γr : Env} (hφ : φ = spL Pool P_pick) (g : Pool p) (af : argsF es [.int m] = true) (hm : 0 < m)
    (q : ∀ r p', 0 ≤ r → r < m → Pool p' → Q (.int r) (some (.lst true p') :: Γr)) : kLend φ 0 es [.int m] (some (.lst true p) :: Γr) Q :=
  k_lend0 hφ g af (c_pick hm fun r h0 h1 p' hp => q r p' h0 h1 hp)
theorem k_pick1 {φ : Spec} {es : Es} {p : List T} {m : Int} {x : Option T} {Γr : Env} (hφ : φ = spL Pool P_pick) (g : Pool p) (af : argsF es [.int m] = true) (hm : 0 < m)
    (q : ∀ r p', 0 ≤ r → r < m → Pool p' → Q (.int r) (x :: some (.lst true p') :: Γr)) : kLend φ 1 es [.int m] (x :: some (.lst true p) :: Γr) Q :=
  k_lend1 hφ g af (c_pick hm fun r h0 h1 p' hp => q r p' h0 h1 hp)
end
local macro_rules | `(tactic| walk_at "pl_vc1") => `(tactic| first
  | ((with_reducible apply w_callL); (focus exact rfl); (focus exact rfl))
  | ((with_reducible apply k_pick0); (focus with_reducible assumption); (focus with_reducible assumption); walk_at "pl_vA"; (focus first | decide | omega))
  | ((with_reducible apply k_pick1); (focus with_reducible assumption); (focus with_reducible assumption); walk_at "pl_vA"; (focus first | decide | omega)))
theorem k_tupP {l : List Int} {r : Int} {K : T → Prop} (h0 : 0 ≤ r) (h1 : r < l.length) (k : ∀ v ∈ l, K (.int v)) : kIdx (.tup (l.map .int)) (.int r) K := by
  refine k_idx (at_sT (s := l) h0 h1) rfl (k _ ?_)
  rw [List.getD_eq_getElem?_getD, List.getElem?_eq_getElem (by omega)]
  exact List.getElem_mem _
/-- a comprehension that draws: the pool in slot i changes at each turn -/
theorem k_lcP {Φ : Nat → Spec} {Γ : Env} {Q : T → Env → Prop} {own : List Nat} {g : G} {c : Oc} {e : E} {xs p : List T} (i : Nat) (R : T → T → Prop) (hp : Pool p) (hG : Γ = Γ.set i (some (.lst true p))) (hi : i ∉ own)
    (hs : ∀ x ∈ xs, ∀ p', Pool p' → ∀ (Kk : Option T → Env → Prop), (∀ y Γ' p'', R x y → Pool p'' → wipeE own Γ' = wipeE own (Γ.set i (some (.lst true p''))) → Kk (some y) Γ') → kTurn Φ g c e x (wipeE own (Γ.set i (some (.lst true p')))) Kk)
    (k : ∀ ys p', Rel2 R xs ys → Pool p' → Q (.lst true ys) (backE own Γ (Γ.set i (some (.lst true p'))))) : kLc Φ own g c e xs Γ Q := by
  suffices h : ∀ (r : List T) (Γ' : Env) (acc : List T) (p' : List T), Pool p' → wipeE own Γ' = wipeE own (Γ.set i (some (.lst true p'))) → (∀ x ∈ r, x ∈ xs) →
      (∀ ys Γ2 p2, Rel2 R r ys → Pool p2 → wipeE own Γ2 = wipeE own (Γ.set i (some (.lst true p2))) → Q (.lst true (acc ++ ys)) (backE own Γ Γ2)) → lcLoop own (kTurn Φ g c e) r Γ' acc fun ys Γ2 => Q (.lst true ys) (backE own Γ Γ2) from
    h xs Γ [] p hp (by rw [← hG]) (fun _ h => h) fun ys Γ2 p2 r hp2 e2 => by
      rw [List.nil_append, backE_eq e2]
      exact k ys p2 r hp2
  intro r
  induction r with
  | nil =>
    intro Γ' acc p' hp' e' _ kk
    simp only [lcLoop]
    simpa using kk [] Γ' p' .nil hp' e'
  | cons x r ih =>
    intro Γ' acc p' hp' e' hm kk
    simp only [lcLoop]
    rw [e']
    refine hs x (hm x List.mem_cons_self) p' hp' _ fun y Γ2 p2 hr hp2 e2 => ?_
    refine ih (wipeE own Γ2) _ p2 hp2 (by rw [wipeE_twice, e2]) (fun z hz => hm z (List.mem_cons_of_mem _ hz)) fun ys Γ3 p3 hr3 hp3 e3 => ?_
    have := kk (y :: ys) Γ3 p3 (.cons hr hr3) hp3 e3
    simpa using this
theorem Rel2.at_ {R : T → T → Prop} {xs ys : List T} (h : Rel2 R xs ys) {i : Nat} {y : T} (e : ys[i]? = some y) : ∃ x, xs[i]? = some x ∧ R x y := by
  have hl := (List.getElem?_eq_some_iff.mp e).1
  rw [h.1] at hl
  exact ⟨xs[i], List.getElem?_eq_getElem hl, h.2 i _ y (List.getElem?_eq_getElem hl) e⟩
/-- ints, each with R of what stood there -/
theorem Rel2.ints {α : Type} {g : α → T} {R : α → Int → Prop} {l : List α} {ys : List T} (h : Rel2 (fun x y => ∃ a v, a ∈ l ∧ x = g a ∧ y = .int v ∧ R a v) (l.map g) ys) (gi : ∀ a b, g a = g b → ∀ v, R a v → R b v) : ∃ vs : List Int, ys = vs.map .int ∧ vs.length = l.length ∧ ∀ (i : Nat) a v, l[i]? = some a → vs[i]? = some v → R a v := by
  refine ⟨ys.map fun t => match t with | .int i => i | _ => 0, ?_, by rw [List.length_map, h.1, List.length_map], fun i a v ha hv => ?_⟩
  · rw [List.map_map]
    symm
    refine (List.map_congr_left fun t ht => ?_).trans (List.map_id _)
    obtain ⟨i, hi⟩ := List.mem_iff_getElem?.mp ht
    obtain ⟨x, -, a, v, -, -, rfl, -⟩ := h.at_ hi
    rfl
  · rw [List.getElem?_map] at hv
    obtain ⟨t, ht, e⟩ := Option.map_eq_some_iff.mp hv
    obtain ⟨x, hx, a', v', -, e1, rfl, r⟩ := h.at_ ht
    rw [List.getElem?_map, ha] at hx
    cases hx
    cases e
    exact gi a' a e1.symm _ r

/-! ### names -/
theorem shp_app {x y : Str} (hx : shp (.str x) = true) (hy : shp (.str y) = true) : shp (.str (x ++ y)) = true := by
  unfold shp PySem.SeqAt.shaped at *
  simp only [data, PySem.PyData.canLay0, PySem.PyData.depth, Bool.and_eq_true] at *
  refine ⟨?_, hx.2⟩
  have h1 := hx.1
  have h2 := hy.1
  unfold PySem.PyData.strOk at *
  rw [show (x ++ y).cps = x.cps ++ y.cps from rfl, Array.all_append, h1, h2]
  rfl
theorem shp_strs : ∀ {xs : List Str}, (∀ x ∈ xs, shp (.str x) = true) → shp (.lst false (xs.map .str)) = true := by
  intro xs h
  have h1 : ∀ xs : List Str, (∀ x ∈ xs, shp (.str x) = true) → PySem.PyData.canLayAll0 (datas (xs.map .str)) = true ∧ PySem.PyData.depthAll (datas (xs.map .str)) = 0 := by
    intro xs
    induction xs with
    | nil => intro _; exact ⟨rfl, rfl⟩
    | cons x xs ih =>
      intro h
      obtain ⟨i1, i2⟩ := ih fun y hy => h y (List.mem_cons_of_mem _ hy)
      have hx := h x List.mem_cons_self
      unfold shp PySem.SeqAt.shaped at hx
      simp only [data, PySem.PyData.canLay0, Bool.and_eq_true] at hx
      simp only [List.map_cons, datas, PySem.PyData.canLayAll0, PySem.PyData.depthAll, data, PySem.PyData.canLay0, PySem.PyData.depth, i1, i2, hx.1]
      decide
  obtain ⟨a, b⟩ := h1 xs h
  unfold shp PySem.SeqAt.shaped
  simp only [data, PySem.PyData.canLay0, PySem.PyData.depth, a, b]
  decide
def sgn : Str := "abcdefghijklmnopqrstuvwxyz0123456789"
theorem sgn_at : ∀ k : Fin 36, (match L2.atI sgn.cps.toList (k.val : Int) with | some c => shp (.str ⟨#[c]⟩) | none => false) = true := by decide +kernel
theorem k_sgn {r : Int} {K : T → Prop} (h0 : 0 ≤ r) (h1 : r < 36) (k : ∀ x : Str, x.length = 1 → shp (.str x) = true → K (.str x)) : kIdx (.str sgn) (.int r) K := by
  obtain ⟨j, rfl⟩ : ∃ j : Fin 36, r = ((j.val : Nat) : Int) := ⟨⟨r.toNat, by omega⟩, by simp only; omega⟩
  have h := sgn_at j
  split at h
  · rename_i c hc
    refine k_idx (v := .str ⟨#[c]⟩) ?_ rfl (k _ rfl h)
    simp only [idxT]
    rw [if_pos (by decide +kernel), hc]
    rfl
  · cases h
theorem zo_ok : ∀ k : Fin 40, shp (.str ("zo" ++ (toString (k.val : Int) : Str))) = true ∧ ("zo" ++ (toString (k.val : Int) : Str)).length ≤ 4 := by decide +kernel
theorem str_len (x y : Str) : (x ++ y).length = x.length + y.length := by
  show (x.cps ++ y.cps).size = _
  rw [Array.size_append]
  rfl
/-- a name of n signs at most -/
def Nm (n : Nat) (x : Str) : Prop := shp (.str x) = true ∧ x.length ≤ n
def cnt (f : Fld) : Int := f.2.2 - f.2.1 + 1
def P_fields (ts : List T) (K : T → Prop) : Prop := ∃ cs : List Int, ts = [.lst false (cs.map .int)] ∧ cs.length ≤ 12 ∧ (∀ c ∈ cs, 1 ≤ c ∧ c ≤ 20) ∧ ∀ fs, OkFs fs → fs.map cnt = cs → K (fsT fs)
theorem c_fields {cs : List Int} {K : T → Prop} (l : cs.length ≤ 12) (h : ∀ c ∈ cs, 1 ≤ c ∧ c ≤ 20) (k : ∀ fs, OkFs fs → fs.map cnt = cs → K (fsT fs)) : P_fields [.lst false (cs.map .int)] K := ⟨cs, rfl, l, h, k⟩
theorem isFs_strs {xs : List Str} : isFs (xs.map T.str) = true := isFs_map (fun _ => rfl) xs
theorem isFs_fldT {xs : List Fld} : isFs (xs.map fldT) = true := isFs_map (fun _ => rfl) xs
theorem k_lookS {i : Nat} {x t : T} {Γ : Env} {K : T → Prop} (h : Γ[i]? = some (some t)) (k : K t) : kLook (.var i) x Γ K := k_lookV h k
local macro_rules | `(tactic| walk_at "pl_isf1") => `(tactic| first | with_reducible exact isFs_strs | with_reducible exact isFs_fldT)
section
variable {Φ : Nat → Spec}
theorem v_fields (h6 : Φ 6 = spL Pool P_pick) : VP Φ [true, false] P_fields il__law_fields 9 := by
  rintro ts Q - am ⟨p, rest, rfl, hp, cs, rfl, hl, hc, q⟩
  show wpSs Φ il__law_fields _ [some (.lst true p), some (.lst false (cs.map .int)), none, none, none, none, none, none, none]
  unfold il__law_fields
  have sl : sizeLine = 16777216 := rfl
  walk_at "pl_vs"
  refine k_for (fun i Γ => ∃ (p : List T) (fs : List Fld) (ns : List Str), Pool p ∧ fs.length = i ∧ ns.length = i ∧ (∀ f ∈ fs, okF f) ∧ fs.map cnt = cs.take i ∧ (∀ x ∈ ns, Nm 40 x) ∧ Γ = [some (.lst true p), some (.lst false (cs.map .int)), some (.str sgn), some (.lst true (fs.map fldT)), some (.lst true (ns.map .str)), none, none, none, none]) ⟨p, [], [], hp, rfl, rfl, by simp, by simp, by simp, rfl⟩ ?_ ?_
  · rintro i x Γ hx ⟨p, fs, ns, hp, lf, ln, okf, hm, hn, rfl⟩ again ag
    rw [List.getElem?_map] at hx
    obtain ⟨c, hci, rfl⟩ := Option.map_eq_some_iff.mp hx
    have hil : i < cs.length := (List.getElem?_eq_some_iff.mp hci).1
    obtain ⟨c0, c1⟩ := hc c (List.mem_of_getElem? hci)
    have ls : shp (.lst false (ns.map .str)) = true := shp_strs fun x h => (hn x h).1
    have hn' : (ns.map T.str).length < sizeLine := by rw [List.length_map]; omega
    have hf' : (fs.map fldT).length < sizeLine := by rw [List.length_map]; omega
    walk_at "pl_vs"
    intro r p r0 r1 hp
    walk_at "pl_vs"
    refine k_sgn r0 (by omega) fun nm ln0 sn => ?_
    walk_at "pl_vs"
    intro r p r0 r1 hp
    walk_at "pl_vs"
    refine k_tupP (l := [0, 0, 1, 2, 4, 7]) r0 r1 fun v hv => ?_
    have hv7 : 0 ≤ v ∧ v ≤ 7 := by
      simp only [List.mem_cons, List.not_mem_nil, or_false] at hv
      omega
    walk_at "pl_vs"
    refine ⟨by omega, by omega, ?_⟩
    refine k_for (fun j Γ => ∃ p nm, Pool p ∧ Nm (1 + j) nm ∧ Γ = [some (.lst true p), some (.lst false (cs.map .int)), some (.str sgn), some (.lst true (fs.map fldT)), some (.lst true (ns.map .str)), some (.int c), some (.str nm), none, none]) ⟨p, nm, hp, ⟨sn, by omega⟩, rfl⟩ ?_ ?_
    · rintro j x Γ hx ⟨p, nm, hp, hnm, rfl⟩ again2 ag2
      obtain ⟨hj, rfl⟩ := rng0_get hx
      have hj : (j : Int) < v := by omega
      walk_at "pl_vs"
      intro r p r0 r1 hp
      walk_at "pl_vs"
      refine k_sgn r0 r1 fun x1 l1 s1 => ?_
      refine o_addS (by have := hnm.2; omega) ?_
      walk_at "pl_vs"
      exact ag2 _ ⟨p, _, hp, ⟨shp_app hnm.1 s1, by rw [str_len, l1]; have := hnm.2; omega⟩, rfl⟩
    · rintro Γ ⟨p, nm, hp, hnm, rfl⟩
      have hnm : Nm 40 nm := ⟨hnm.1, by have := hnm.2; simp at this; omega⟩
      refine s_cons ?_
      refine s_join (fun Γ => ∃ nm, Nm 40 nm ∧ Γ = [some (.lst true p), some (.lst false (cs.map .int)), some (.str sgn), some (.lst true (fs.map fldT)), some (.lst true (ns.map .str)), some (.int c), some (.str nm), none, none]) (fun nx' jn => ?_) ?_
      · walk_at "pl_vs"
        refine r_inL hnm.1 ls ?_
        walk_at "pl_vs"
        · obtain ⟨z1, z2⟩ := zo_ok ⟨ns.length, by omega⟩
          simp only at z1 z2
          rw [List.length_map]
          refine b_str (by rw [Int.natAbs_natCast]; exact Nat.lt_of_le_of_lt (Nat.log2_le_self _) (by omega)) ?_
          refine o_addS (by rw [← str_len]; omega) ?_
          walk_at "pl_vs"
          exact jn _ ⟨_, ⟨z1, by omega⟩, rfl⟩
        · exact jn _ ⟨nm, hnm, rfl⟩
      · rintro Γ ⟨nm, hnm, rfl⟩
        walk_at "pl_vs"
        refine ⟨by decide, by decide, ?_⟩
        refine k_for (fun j Γ => ∃ nm, Nm 40 nm ∧ Γ = [some (.lst true p), some (.lst false (cs.map .int)), some (.str sgn), some (.lst true (fs.map fldT)), some (.lst true (ns.map .str)), some (.int c), some (.str nm), none, none]) ⟨nm, hnm, rfl⟩ ?_ ?_
        · rintro j x Γ hx ⟨nm, hnm, rfl⟩ again2 ag2
          obtain ⟨hj, rfl⟩ := rng0_get hx
          have hj : j < 20 := hj
          walk_at "pl_vs"
          refine r_inL hnm.1 ls ?_
          walk_at "pl_vs"
          · obtain ⟨z1, z2⟩ := zo_ok ⟨20 + j, by omega⟩
            have e : ((20 + j : Nat) : Int) = 20 + (j : Int) := by omega
            simp only [e] at z1 z2
            refine b_str (by rw [← e, Int.natAbs_natCast]; exact Nat.lt_of_le_of_lt (Nat.log2_le_self _) (by omega)) ?_
            refine o_addS (by rw [← str_len]; omega) ?_
            walk_at "pl_vs"
            exact ag2 _ ⟨_, ⟨z1, by omega⟩, rfl⟩
          · exact ag2 _ ⟨nm, hnm, rfl⟩
        · rintro Γ ⟨nm, hnm, rfl⟩
          walk_at "pl_vs"
          intro r p r0 r1 hp
          walk_at "pl_vs"
          intro s p s0 s1 hp
          walk_at "pl_vs"
          refine k_tupP (l := [0, 0, 0, 0, 1, 1, 2, 3]) s0 s1 fun v hv => ?_
          have hv3 : 0 ≤ v ∧ v ≤ 3 := by
            simp only [List.mem_cons, List.not_mem_nil, or_false] at hv
            omega
          walk_at "pl_vs"
          refine k_tupP (l := [r - 3, 0, 0 - 10 ^ (6 : Int).toNat, 10 ^ (6 : Int).toNat - 19]) hv3.1 (by simp; omega) fun lo hlo => ?_
          have hlo2 : -2000000 ≤ lo ∧ lo ≤ 2000000 := by
            have e6 : (10 : Int) ^ (6 : Int).toNat = 1000000 := by decide
            simp only [e6, List.mem_cons, List.not_mem_nil, or_false] at hlo
            omega
          walk_at "pl_vs"
          have e : ∀ (a : Str) (b c : Int), fs.map fldT ++ [T.tup [.str a, .int b, .int c]] = (fs ++ [(a, b, c)]).map fldT := fun a b c => by rw [List.map_append]; rfl
          have e' : ns.map T.str ++ [T.str nm] = (ns ++ [nm]).map T.str := by rw [List.map_append]; rfl
          rw [e, e']
          refine ag _ ⟨p, _, _, hp, by simp [lf], by simp [ln], fun f hf => ?_, ?_, fun x hx => ?_, rfl⟩
          · rcases List.mem_append.mp hf with m | m
            · exact okf f m
            · rw [List.mem_singleton.mp m]
              exact ⟨by simp only; omega, by simp only; omega, hlo2.1, hlo2.2⟩
          · rw [List.map_append, hm, List.take_add_one, hci]
            simp [cnt]
            omega
          · rcases List.mem_append.mp hx with m | m
            · exact hn x m
            · rw [List.mem_singleton.mp m]; exact hnm
  · rintro Γ ⟨p, fs, ns, hp, lf, ln, okf, hm, hn, rfl⟩
    walk_at "pl_vs"
    rw [List.length_map] at hm lf
    rw [List.take_length] at hm
    exact k_ioP rfl rfl (by simp) (q fs ⟨by omega, okf⟩ hm p hp)
end

/-! k84: mathematics of middles. -/
/-! ### sheets of fields -/
structure Box (fs : List Fld) (s : Sheet) : Prop where
  len : s.length = fs.length
  inn : ∀ (i : Nat) f a, fs[i]? = some f → s[i]? = some a → f.2.1 ≤ a ∧ a ≤ f.2.2
theorem mem_vals {f : Fld} {a : Int} : a ∈ vals f ↔ f.2.1 ≤ a ∧ a ≤ f.2.2 := by
  unfold vals
  rw [List.mem_map]
  constructor
  · rintro ⟨k, hk, rfl⟩
    rw [List.mem_range] at hk
    omega
  · intro h
    exact ⟨(a - f.2.1).toNat, List.mem_range.mpr (by omega), by omega⟩
theorem box_snoc {fs : List Fld} {f : Fld} {s : Sheet} {a : Int} : Box (fs ++ [f]) (s ++ [a]) ↔ Box fs s ∧ f.2.1 ≤ a ∧ a ≤ f.2.2 := by
  constructor
  · intro h
    have hl : s.length = fs.length := by have := h.len; simpa using this
    refine ⟨⟨hl, fun i g b e1 e2 => ?_⟩, ?_⟩
    · have h1 := (List.getElem?_eq_some_iff.mp e1).1
      have h2 := (List.getElem?_eq_some_iff.mp e2).1
      exact h.inn i g b (by rw [List.getElem?_append_left h1]; exact e1) (by rw [List.getElem?_append_left h2]; exact e2)
    · exact h.inn fs.length f a (by simp) (by rw [← hl]; simp)
  · rintro ⟨h, h1⟩
    refine ⟨by simp [h.len], fun i g b e1 e2 => ?_⟩
    by_cases hi : i < fs.length
    · rw [List.getElem?_append_left hi] at e1
      rw [List.getElem?_append_left (by rw [h.len]; exact hi)] at e2
      exact h.inn i g b e1 e2
    · have : i = fs.length := by
        have := (List.getElem?_eq_some_iff.mp e1).1
        simp at this
        omega
      subst this
      rw [List.getElem?_concat_length] at e1
      rw [← h.len, List.getElem?_concat_length] at e2
      cases e1
      cases e2
      exact h1
theorem mem_allS : ∀ (fs : List Fld) (s : Sheet), s ∈ allS fs ↔ Box fs s := by
  intro fs
  induction h : fs.length generalizing fs with
  | zero =>
    intro s
    rw [List.length_eq_zero_iff.mp h]
    constructor
    · intro m
      have : s = [] := by simpa [allS] using m
      subst this
      exact ⟨rfl, fun i f a e => by simp at e⟩
    · intro b
      have : s = [] := List.length_eq_zero_iff.mp b.len
      subst this
      simp [allS]
  | succ n ih =>
    intro s
    have hne : fs ≠ [] := by intro e; rw [e] at h; simp at h
    have e0 := List.dropLast_concat_getLast hne
    rw [← e0, allS_snoc]
    unfold allU
    rw [List.mem_flatMap]
    have ihd := ih fs.dropLast (by simp [h])
    constructor
    · rintro ⟨r, hr, hm⟩
      obtain ⟨v, hv, rfl⟩ := List.mem_map.mp hm
      exact box_snoc.mpr ⟨(ihd r).mp hr, mem_vals.mp hv⟩
    · intro b
      have hs : s ≠ [] := by
        intro e
        rw [e] at b
        have := b.len
        simp at this
      rw [← List.dropLast_concat_getLast hs] at b ⊢
      have b' := box_snoc.mp b
      exact ⟨_, (ihd _).mpr b'.1, List.mem_map.mpr ⟨_, mem_vals.mpr b'.2, rfl⟩⟩
/-! ### ranks -/
theorem srt_perm (l : List Int) : (srt l).Perm l := List.mergeSort_perm _ _
theorem srt_sorted (l : List Int) : (srt l).Pairwise (· ≤ ·) := by
  have := List.pairwise_mergeSort (le := fun a b : Int => decide (a ≤ b)) (fun a b c h1 h2 => by simp only [decide_eq_true_eq] at *; omega) (fun a b => by simp only [Bool.or_eq_true, decide_eq_true_eq]; omega) l
  exact this.imp fun h => by simpa using h
theorem countP_ge {l : List Int} {p : Int → Bool} (k : Nat) (h : ∀ x ∈ l.take k, p x = true) : min k l.length ≤ l.countP p := by
  conv => rhs; rw [← List.take_append_drop k l]
  rw [List.countP_append, List.countP_eq_length.mpr h, List.length_take]
  omega
theorem countP_ge' {l : List Int} {p : Int → Bool} (k : Nat) (h : ∀ x ∈ l.drop k, p x = true) : l.length - k ≤ l.countP p := by
  conv => rhs; rw [← List.take_append_drop k l]
  rw [List.countP_append, List.countP_eq_length.mpr h, List.length_drop]
  omega
theorem rank_cnt {l : List Int} {m : Nat} (h : m < l.length) : (srt l).getD m 0 ∈ l ∧ m + 1 ≤ l.countP (fun x => decide (x ≤ (srt l).getD m 0)) ∧ l.length - m ≤ l.countP (fun x => decide ((srt l).getD m 0 ≤ x)) := by
  have hp := srt_perm l
  have hs := srt_sorted l
  have hl := srt_len l
  have hm : m < (srt l).length := by omega
  have e : (srt l).getD m 0 = (srt l)[m] := by simp [hm]
  refine ⟨?_, ?_, ?_⟩
  · rw [e]
    exact hp.mem_iff.mp (List.getElem_mem hm)
  · rw [← hp.countP_eq]
    have := countP_ge (l := srt l) (p := fun x => decide (x ≤ (srt l).getD m 0)) (m + 1) fun x hx => by
      obtain ⟨j, hj⟩ := List.mem_iff_getElem?.mp hx
      obtain ⟨hj1, ej⟩ := List.getElem?_eq_some_iff.mp hj
      rw [List.length_take] at hj1
      rw [List.getElem_take] at ej
      rw [e, ← ej, decide_eq_true_eq]
      by_cases hjm : j = m
      · subst hjm; exact Int.le_refl _
      · exact List.pairwise_iff_getElem.mp hs j m (by omega) hm (by omega)
    omega
  · rw [← hp.countP_eq]
    have := countP_ge' (l := srt l) (p := fun x => decide ((srt l).getD m 0 ≤ x)) m fun x hx => by
      obtain ⟨j, hj⟩ := List.mem_iff_getElem?.mp hx
      rw [List.getElem?_drop] at hj
      obtain ⟨hj1, ej⟩ := List.getElem?_eq_some_iff.mp hj
      rw [e, ← ej, decide_eq_true_eq]
      by_cases hjm : j = 0
      · subst hjm; exact Int.le_refl _
      · exact List.pairwise_iff_getElem.mp hs m (m + j) hm hj1 (by omega)
    omega
/-! ### two that meet -/
theorem two_meet {α : Type} (p q : α → Bool) : ∀ {xs : List α}, xs.length < xs.countP p + xs.countP q → ∃ x ∈ xs, p x = true ∧ q x = true
  | [], h => by simp at h
  | x :: xs, h => by
    by_cases hx : p x = true ∧ q x = true
    · exact ⟨x, List.mem_cons_self, hx⟩
    · have : xs.length < xs.countP p + xs.countP q := by
        rw [List.countP_cons, List.countP_cons, List.length_cons] at h
        cases hp : p x <;> cases hq : q x <;> simp [hp, hq] at hx h <;> omega
      obtain ⟨y, hy, hh⟩ := two_meet p q this
      exact ⟨y, List.mem_cons_of_mem _ hy, hh⟩
/-- the weight of those with p -/
def wP {α : Type} (p : α → Bool) : List (α × Int) → Int
  | [] => 0
  | z :: l => (if p z.1 = true then z.2 else 0) + wP p l
theorem wP_nn {α : Type} (p : α → Bool) : ∀ {l : List (α × Int)}, (∀ z ∈ l, 1 ≤ z.2) → 0 ≤ wP p l
  | [], _ => Int.le_refl _
  | z :: l, h => by
    have h1 := h z List.mem_cons_self
    have h2 := wP_nn p fun y m => h y (List.mem_cons_of_mem z m)
    unfold wP
    split <;> omega
theorem wP_meet {α : Type} (p q : α → Bool) : ∀ {l : List (α × Int)}, (∀ z ∈ l, 1 ≤ z.2) → wP (fun _ => true) l < wP p l + wP q l → ∃ z ∈ l, p z.1 = true ∧ q z.1 = true
  | [], _, h => by simp [wP] at h
  | z :: l, hw, h => by
    by_cases hx : p z.1 = true ∧ q z.1 = true
    · exact ⟨z, List.mem_cons_self, hx⟩
    · have h1 := hw z List.mem_cons_self
      have : wP (fun _ => true) l < wP p l + wP q l := by
        simp only [wP] at h
        cases hp : p z.1 <;> cases hq : q z.1 <;> simp [hp, hq] at hx h <;> omega
      obtain ⟨y, hy, hh⟩ := wP_meet p q (fun y m => hw y (List.mem_cons_of_mem z m)) this
      exact ⟨y, List.mem_cons_of_mem _ hy, hh⟩
theorem wP_mono {α : Type} {p q : α → Bool} (h : ∀ x, p x = true → q x = true) : ∀ {l : List (α × Int)}, (∀ z ∈ l, 1 ≤ z.2) → wP p l ≤ wP q l
  | [], _ => Int.le_refl _
  | z :: l, hw => by
    have h1 := hw z List.mem_cons_self
    have h2 := wP_mono h fun y m => hw y (List.mem_cons_of_mem z m)
    unfold wP
    cases hp : p z.1 with
    | true => rw [h _ hp]; simp; omega
    | false => cases q z.1 <;> simp <;> omega
theorem wP_not {α : Type} (p : α → Bool) : ∀ l : List (α × Int), wP p l + wP (fun x => !p x) l = wP (fun _ => true) l
  | [] => rfl
  | z :: l => by
    have := wP_not p l
    show (if p z.1 = true then z.2 else 0) + wP p l + ((if (!p z.1) = true then z.2 else 0) + wP (fun x => !p x) l) = (if true = true then z.2 else 0) + wP (fun _ => true) l
    by_cases hp : p z.1 = true
    · rw [if_pos hp, if_neg (by simp [hp]), if_pos rfl]; omega
    · have : p z.1 = false := by simpa using hp
      rw [if_neg hp, if_pos (by simp [this]), if_pos rfl]; omega
/-! ### rules -/
/-- a saying that fails at a fails farther on, too -/
theorem fail_le {y : Say} (hy : y.2.1 = 1) {a b : Int} (h : hld y a = false) (hb : b ≤ a) : hld y b = false := by
  unfold hld at h ⊢
  rw [hy] at h ⊢
  simp only [Int.mul_one, decide_eq_false_iff_not] at h ⊢
  omega
theorem fail_ge {y : Say} (hy : y.2.1 = -1) {a b : Int} (h : hld y a = false) (hb : a ≤ b) : hld y b = false := by
  unfold hld at h ⊢
  rw [hy] at h ⊢
  simp only [decide_eq_false_iff_not] at h ⊢
  omega
theorem countP_fail {xs : List Sheet} {y : Say} {a : Int} {k : Nat} (w : way y) (h : hld y a = false) (h1 : k ≤ xs.countP fun x => decide (x.getD y.1.toNat 0 ≤ a)) (h2 : k ≤ xs.countP fun x => decide (a ≤ x.getD y.1.toNat 0)) : k ≤ xs.countP fun x => !hin y x := by
  rcases w with w | w
  · refine Nat.le_trans h1 (List.countP_mono_left fun x _ hx => ?_)
    have := fail_le w h (of_decide_eq_true hx)
    unfold hin
    rw [this]; rfl
  · refine Nat.le_trans h2 (List.countP_mono_left fun x _ hx => ?_)
    have := fail_ge w h (of_decide_eq_true hx)
    unfold hin
    rw [this]; rfl
theorem ruleB_false {r : Rule} {s : Sheet} (h : ruleB r s = false) : hin r.1 s = false ∧ hin r.2 s = false := by
  unfold ruleB at h
  simpa using h
theorem half_lt {a b : Nat} (h : a < 2 * b) : a / 2 + 1 ≤ b := by omega
theorem half_ltI {a b : Int} (h : a < 2 * b) : a / 2 + 1 ≤ b := by omega
/-- more than half in each field -/
def Maj (xs : List Sheet) (n : Nat) (v : Sheet) : Prop := ∀ f, f < n → xs.length < 2 * xs.countP (fun x => decide (x.getD f 0 ≤ v.getD f 0)) ∧ xs.length < 2 * xs.countP (fun x => decide (v.getD f 0 ≤ x.getD f 0))
theorem Maj.rule {xs : List Sheet} {n : Nat} {v : Sheet} (h : Maj xs n v) {r : Rule} (ok : okR n r) (hx : ∀ x ∈ xs, ruleB r x = true) : ruleB r v = true := by
  cases hb : ruleB r v with
  | true => rfl
  | false =>
    exfalso
    obtain ⟨f1, f2⟩ := ruleB_false hb
    have m1 := h r.1.1.toNat (by have := ok.1.2; omega)
    have m2 := h r.2.1.toNat (by have := ok.2.2; omega)
    have c1 := countP_fail (a := v.getD r.1.1.toNat 0) (k := xs.length / 2 + 1) ok.1.1 f1 (half_lt m1.1) (half_lt m1.2)
    have c2 := countP_fail (a := v.getD r.2.1.toNat 0) (k := xs.length / 2 + 1) ok.2.1 f2 (half_lt m2.1) (half_lt m2.2)
    obtain ⟨x, hx1, hx2, hx3⟩ := two_meet (xs := xs) (fun x => !hin r.1 x) (fun x => !hin r.2 x) (by omega)
    have := hx x hx1
    unfold ruleB at this
    simp only [Bool.not_eq_true'] at hx2 hx3
    rw [hx2, hx3] at this
    cases this
/-- more than half by weights -/
def MajW (l : List (Sheet × Int)) (n : Nat) (v : Sheet) : Prop := ∀ f, f < n → wP (fun _ => true) l < 2 * wP (fun x => decide (x.getD f 0 ≤ v.getD f 0)) l ∧ wP (fun _ => true) l < 2 * wP (fun x => decide (v.getD f 0 ≤ x.getD f 0)) l
theorem wP_fail {l : List (Sheet × Int)} (hw : ∀ z ∈ l, 1 ≤ z.2) {y : Say} {a k : Int} (w : way y) (h : hld y a = false) (h1 : k ≤ wP (fun x => decide (x.getD y.1.toNat 0 ≤ a)) l) (h2 : k ≤ wP (fun x => decide (a ≤ x.getD y.1.toNat 0)) l) : k ≤ wP (fun x => !hin y x) l := by
  rcases w with w | w
  · refine Int.le_trans h1 (wP_mono (fun x hx => ?_) hw)
    have := fail_le w h (of_decide_eq_true hx)
    unfold hin
    rw [this]; rfl
  · refine Int.le_trans h2 (wP_mono (fun x hx => ?_) hw)
    have := fail_ge w h (of_decide_eq_true hx)
    unfold hin
    rw [this]; rfl
theorem MajW.rule {l : List (Sheet × Int)} (hw : ∀ z ∈ l, 1 ≤ z.2) {n : Nat} {v : Sheet} (h : MajW l n v) {r : Rule} (ok : okR n r) (hx : ∀ z ∈ l, ruleB r z.1 = true) : ruleB r v = true := by
  cases hb : ruleB r v with
  | true => rfl
  | false =>
    exfalso
    obtain ⟨f1, f2⟩ := ruleB_false hb
    have m1 := h r.1.1.toNat (by have := ok.1.2; omega)
    have m2 := h r.2.1.toNat (by have := ok.2.2; omega)
    have c1 := wP_fail hw (a := v.getD r.1.1.toNat 0) (k := wP (fun _ => true) l / 2 + 1) ok.1.1 f1 (half_ltI m1.1) (half_ltI m1.2)
    have c2 := wP_fail hw (a := v.getD r.2.1.toNat 0) (k := wP (fun _ => true) l / 2 + 1) ok.2.1 f2 (half_ltI m2.1) (half_ltI m2.2)
    obtain ⟨x, hx1, hx2, hx3⟩ := wP_meet (fun x => !hin r.1 x) (fun x => !hin r.2 x) hw (by omega)
    have := hx x hx1
    unfold ruleB at this
    simp only [Bool.not_eq_true'] at hx2 hx3
    rw [hx2, hx3] at this
    cases this
/-- a rule that rises -/
def risR (r : Rule) : Prop := r.1.2.1 ≠ r.2.2.1 ∨ r.1 = r.2
/-- m + 1 at most as great, all but m at least as great -/
def Rnk (xs : List Sheet) (n m : Nat) (v : Sheet) : Prop := ∀ f, f < n → m + 1 ≤ xs.countP (fun x => decide (x.getD f 0 ≤ v.getD f 0)) ∧ xs.length - m ≤ xs.countP (fun x => decide (v.getD f 0 ≤ x.getD f 0))
theorem Rnk.rule {xs : List Sheet} {n m : Nat} {v : Sheet} (hm : m < xs.length) (h : Rnk xs n m v) {r : Rule} (ok : okR n r) (ri : risR r) (hx : ∀ x ∈ xs, ruleB r x = true) : ruleB r v = true := by
  cases hb : ruleB r v with
  | true => rfl
  | false =>
    exfalso
    obtain ⟨f1, f2⟩ := ruleB_false hb
    obtain ⟨a1, b1⟩ := h r.1.1.toNat (by have := ok.1.2; omega)
    obtain ⟨a2, b2⟩ := h r.2.1.toNat (by have := ok.2.2; omega)
    have up : ∀ y : Say, y.2.1 = 1 → hin y v = false → xs.countP (fun x => decide (x.getD y.1.toNat 0 ≤ v.getD y.1.toNat 0)) ≤ xs.countP fun x => !hin y x := fun y w f => List.countP_mono_left fun x _ hx => by
      have := fail_le w f (of_decide_eq_true hx)
      unfold hin
      rw [this]; rfl
    have dn : ∀ y : Say, y.2.1 = -1 → hin y v = false → xs.countP (fun x => decide (v.getD y.1.toNat 0 ≤ x.getD y.1.toNat 0)) ≤ xs.countP fun x => !hin y x := fun y w f => List.countP_mono_left fun x _ hx => by
      have := fail_ge w f (of_decide_eq_true hx)
      unfold hin
      rw [this]; rfl
    have fin : ∀ x ∈ xs, hin r.1 x = false → hin r.2 x = false → False := fun x m e1 e2 => by
      have := hx x m
      unfold ruleB at this
      rw [e1, e2] at this
      cases this
    have both : xs.length < xs.countP (fun x => !hin r.1 x) + xs.countP (fun x => !hin r.2 x) → False := fun hc => by
      obtain ⟨x, hx1, hx2, hx3⟩ := two_meet (xs := xs) (fun x => !hin r.1 x) (fun x => !hin r.2 x) hc
      exact fin x hx1 (by simpa using hx2) (by simpa using hx3)
    rcases ri with ri | ri
    · rcases ok.1.1 with w1 | w1 <;> rcases ok.2.1 with w2 | w2
      · exact ri (w1.trans w2.symm)
      · have := up _ w1 f1
        have := dn _ w2 f2
        exact both (by omega)
      · have := dn _ w1 f1
        have := up _ w2 f2
        exact both (by omega)
      · exact ri (w1.trans w2.symm)
    · have hp : 0 < xs.countP fun x => !hin r.1 x := by
        rcases ok.1.1 with w1 | w1
        · have := up _ w1 f1
          omega
        · have := dn _ w1 f1
          omega
      obtain ⟨x, hx1, hx2⟩ := List.countP_pos_iff.mp hp
      exact fin x hx1 (by simpa using hx2) (by rw [← ri]; simpa using hx2)
/-! ### how far -/
def sumI (c : List Int) (u : Int) : Int := (c.map fun x => ab (x - u)).sum
theorem ab_nn (i : Int) : 0 ≤ ab i := by unfold ab; split <;> omega
theorem sumI_up {d v : Int} (hd : 0 ≤ d) : ∀ c : List Int, sumI c v + (2 * (c.countP fun x => decide (x ≤ v) : Nat) - (c.length : Int)) * d ≤ sumI c (v + d)
  | [] => by simp [sumI]
  | x :: c => by
    have ih := sumI_up (v := v) hd c
    have e1 : ∀ u, sumI (x :: c) u = ab (x - u) + sumI c u := fun u => by unfold sumI; rw [List.map_cons, List.sum_cons]
    rw [e1, e1, List.countP_cons, List.length_cons]
    by_cases h : x ≤ v
    · rw [if_pos (by simpa using h)]
      have h1 : ab (x - v) + d ≤ ab (x - (v + d)) := by unfold ab; split <;> split <;> omega
      have e2 : (2 * ((c.countP (fun x => decide (x ≤ v)) + 1 : Nat) : Int) - ((c.length + 1 : Nat) : Int)) * d = (2 * (c.countP (fun x => decide (x ≤ v)) : Nat) - (c.length : Int)) * d + d := by
        rw [show (2 * ((c.countP (fun x => decide (x ≤ v)) + 1 : Nat) : Int) - ((c.length + 1 : Nat) : Int)) = (2 * (c.countP (fun x => decide (x ≤ v)) : Nat) - (c.length : Int)) + 1 by omega, Int.add_mul, Int.one_mul]
      rw [e2]
      omega
    · rw [if_neg (by simpa using h)]
      have h1 : ab (x - v) - d ≤ ab (x - (v + d)) := by unfold ab; split <;> split <;> omega
      have e2 : (2 * ((c.countP (fun x => decide (x ≤ v)) + 0 : Nat) : Int) - ((c.length + 1 : Nat) : Int)) * d = (2 * (c.countP (fun x => decide (x ≤ v)) : Nat) - (c.length : Int)) * d - d := by
        rw [show (2 * ((c.countP (fun x => decide (x ≤ v)) + 0 : Nat) : Int) - ((c.length + 1 : Nat) : Int)) = (2 * (c.countP (fun x => decide (x ≤ v)) : Nat) - (c.length : Int)) - 1 by omega, Int.sub_mul, Int.one_mul]
      rw [e2]
      omega
theorem sumI_dn {d v : Int} (hd : 0 ≤ d) : ∀ c : List Int, sumI c v + (2 * (c.countP fun x => decide (v ≤ x) : Nat) - (c.length : Int)) * d ≤ sumI c (v - d)
  | [] => by simp [sumI]
  | x :: c => by
    have ih := sumI_dn (v := v) hd c
    have e1 : ∀ u, sumI (x :: c) u = ab (x - u) + sumI c u := fun u => by unfold sumI; rw [List.map_cons, List.sum_cons]
    rw [e1, e1, List.countP_cons, List.length_cons]
    by_cases h : v ≤ x
    · rw [if_pos (by simpa using h)]
      have h1 : ab (x - v) + d ≤ ab (x - (v - d)) := by unfold ab; split <;> split <;> omega
      have e2 : (2 * ((c.countP (fun x => decide (v ≤ x)) + 1 : Nat) : Int) - ((c.length + 1 : Nat) : Int)) * d = (2 * (c.countP (fun x => decide (v ≤ x)) : Nat) - (c.length : Int)) * d + d := by
        rw [show (2 * ((c.countP (fun x => decide (v ≤ x)) + 1 : Nat) : Int) - ((c.length + 1 : Nat) : Int)) = (2 * (c.countP (fun x => decide (v ≤ x)) : Nat) - (c.length : Int)) + 1 by omega, Int.add_mul, Int.one_mul]
      rw [e2]
      omega
    · rw [if_neg (by simpa using h)]
      have h1 : ab (x - v) - d ≤ ab (x - (v - d)) := by unfold ab; split <;> split <;> omega
      have e2 : (2 * ((c.countP (fun x => decide (v ≤ x)) + 0 : Nat) : Int) - ((c.length + 1 : Nat) : Int)) * d = (2 * (c.countP (fun x => decide (v ≤ x)) : Nat) - (c.length : Int)) * d - d := by
        rw [show (2 * ((c.countP (fun x => decide (v ≤ x)) + 0 : Nat) : Int) - ((c.length + 1 : Nat) : Int)) = (2 * (c.countP (fun x => decide (v ≤ x)) : Nat) - (c.length : Int)) - 1 by omega, Int.sub_mul, Int.one_mul]
      rw [e2]
      omega
theorem sumI_least {c : List Int} {v : Int} (h1 : c.length ≤ 2 * c.countP fun x => decide (x ≤ v)) (h2 : c.length ≤ 2 * c.countP fun x => decide (v ≤ x)) (u : Int) : sumI c v ≤ sumI c u := by
  by_cases h : v ≤ u
  · have := sumI_up (d := u - v) (v := v) (by omega) c
    rw [show v + (u - v) = u by omega] at this
    have p : 0 ≤ (2 * (c.countP fun x => decide (x ≤ v) : Nat) - (c.length : Int)) * (u - v) := Int.mul_nonneg (by omega) (by omega)
    omega
  · have := sumI_dn (d := v - u) (v := v) (by omega) c
    rw [show v - (v - u) = u by omega] at this
    have p : 0 ≤ (2 * (c.countP fun x => decide (v ≤ x) : Nat) - (c.length : Int)) * (v - u) := Int.mul_nonneg (by omega) (by omega)
    omega
theorem dis_sum {o s : Sheet} {n : Nat} (h1 : o.length = n) (h2 : s.length = n) : (dis o s).sum = ((List.range n).map fun f => ab (o.getD f 0 - s.getD f 0)).sum := by
  congr 1
  apply List.ext_getElem?
  intro i
  by_cases hi : i < n
  · rw [dis_get (by omega) (by omega), List.getElem?_map, List.getElem?_range hi]
    simp [show i < o.length by omega, show i < s.length by omega]
  · rw [List.getElem?_eq_none (by unfold dis; simp; omega), List.getElem?_eq_none (by simp; omega)]
theorem sum_add {α : Type} (f g : α → Int) : ∀ l : List α, (l.map fun x => f x + g x).sum = (l.map f).sum + (l.map g).sum
  | [] => rfl
  | x :: l => by
    simp only [List.map_cons, List.sum_cons, sum_add f g l]
    omega
theorem far_cols {n : Nat} {s : Sheet} (hs : s.length = n) : ∀ {xs : List Sheet}, (∀ x ∈ xs, x.length = n) → far xs s = ((List.range n).map fun f => sumI (col xs f) (s.getD f 0)).sum
  | [], _ => by
    unfold far farL
    simp only [List.flatMap_nil, List.sum_nil]
    have : ∀ l : List Nat, (l.map fun f => sumI (col [] f) (s.getD f 0)).sum = 0 := fun l => by
      induction l with
      | nil => rfl
      | cons a l ih => rw [List.map_cons, List.sum_cons, ih]; simp [sumI, col]
    rw [this]
  | x :: xs, h => by
    have ih := far_cols hs fun y m => h y (List.mem_cons_of_mem x m)
    have e : far (x :: xs) s = (dis x s).sum + far xs s := by
      unfold far farL
      rw [List.flatMap_cons, List.sum_append]
    rw [e, ih, dis_sum (h x List.mem_cons_self) hs, ← sum_add]
    rfl
theorem sum_le {α : Type} {f g : α → Int} : ∀ {l : List α}, (∀ x ∈ l, f x ≤ g x) → (l.map f).sum ≤ (l.map g).sum
  | [], _ => Int.le_refl _
  | x :: l, h => by
    have h1 := h x List.mem_cons_self
    have h2 := sum_le fun y m => h y (List.mem_cons_of_mem x m)
    simp only [List.map_cons, List.sum_cons]
    omega
theorem cnt_col {xs : List Sheet} {f : Nat} {p : Int → Bool} : (col xs f).countP p = xs.countP fun x => p (x.getD f 0) := by
  unfold col
  rw [List.countP_map]
  rfl
theorem rank_get {xs : List Sheet} {n m f : Nat} (h : f < n) : (rankS xs n m).getD f 0 = (srt (col xs f)).getD m 0 := by
  unfold rankS
  rw [List.getD_eq_getElem?_getD, List.getElem?_map, List.getElem?_range h]
  rfl
theorem rank_len {xs : List Sheet} {n m : Nat} : (rankS xs n m).length = n := by unfold rankS; simp
theorem col_len {xs : List Sheet} {f : Nat} : (col xs f).length = xs.length := by unfold col; rw [List.length_map]
theorem rank_rnk {xs : List Sheet} {n m : Nat} (hm : m < xs.length) : Rnk xs n m (rankS xs n m) := fun f hf => by
  rw [rank_get hf]
  have := rank_cnt (l := col xs f) (m := m) (by rw [col_len]; exact hm)
  rw [cnt_col, cnt_col, col_len] at this
  exact this.2
theorem rank_mem {xs : List Sheet} {n m f : Nat} (hm : m < xs.length) (hf : f < n) : ∃ x ∈ xs, (rankS xs n m).getD f 0 = x.getD f 0 := by
  rw [rank_get hf]
  have := (rank_cnt (l := col xs f) (m := m) (by rw [col_len]; exact hm)).1
  unfold col at this
  obtain ⟨x, hx, e⟩ := List.mem_map.mp this
  exact ⟨x, hx, e.symm⟩
theorem box_of {fs : List Fld} {xs : List Sheet} {v : Sheet} (hl : v.length = fs.length) (hb : ∀ x ∈ xs, Box fs x) (h : ∀ f, f < fs.length → ∃ x ∈ xs, v.getD f 0 = x.getD f 0) : Box fs v := by
  refine ⟨hl, fun i f a e1 e2 => ?_⟩
  have hi := (List.getElem?_eq_some_iff.mp e1).1
  obtain ⟨x, hx, e⟩ := h i hi
  have hxi : i < x.length := by rw [(hb x hx).len]; exact hi
  have := (hb x hx).inn i f x[i] e1 (List.getElem?_eq_getElem hxi)
  obtain ⟨h1, e3⟩ := List.getElem?_eq_some_iff.mp e2
  have : a = x[i] := by
    rw [← e3]
    simpa [h1, hxi] using e
  rw [this]
  assumption
theorem centre_maj {xs : List Sheet} {n : Nat} (h0 : xs ≠ []) : Maj (oddOf xs) n (centreS xs n) := fun f hf => by
  obtain ⟨e1, e2, e3, e4⟩ := odd_len h0
  have hp : 0 < (oddOf xs).length := List.length_pos_iff.mpr e4
  have := rank_rnk (xs := oddOf xs) (n := n) (m := (oddOf xs).length / 2) (by omega) f hf
  unfold centreS
  omega
theorem centre_mem {xs : List Sheet} {n f : Nat} (h0 : xs ≠ []) (hf : f < n) : ∃ x ∈ xs, (centreS xs n).getD f 0 = x.getD f 0 := by
  obtain ⟨e1, e2, e3, e4⟩ := odd_len h0
  have hp : 0 < (oddOf xs).length := List.length_pos_iff.mpr e4
  obtain ⟨x, hx, e⟩ := rank_mem (xs := oddOf xs) (m := (oddOf xs).length / 2) (by omega) hf
  exact ⟨x, List.mem_of_mem_take hx, e⟩
theorem centre_len {xs : List Sheet} {n : Nat} : (centreS xs n).length = n := rank_len
theorem centre_least {xs : List Sheet} {n : Nat} (h0 : xs ≠ []) (h : ∀ x ∈ xs, x.length = n) {s : Sheet} (hs : s.length = n) : far xs (centreS xs n) ≤ far xs s := by
  rw [far_cols centre_len h, far_cols hs h]
  refine sum_le fun f hf => ?_
  have hf := List.mem_range.mp hf
  obtain ⟨e1, e2, e3, e4⟩ := odd_len h0
  have h1 : 0 < xs.length := List.length_pos_iff.mpr h0
  obtain ⟨m1, m2⟩ := centre_maj (n := n) h0 f hf
  have sub : ∀ p : Sheet → Bool, (oddOf xs).countP p ≤ xs.countP p := fun p => (List.take_sublist _ _).countP_le
  have s1 := sub fun x => decide (x.getD f 0 ≤ (centreS xs n).getD f 0)
  have s2 := sub fun x => decide ((centreS xs n).getD f 0 ≤ x.getD f 0)
  refine sumI_least ?_ ?_ _
  · rw [cnt_col, col_len]; omega
  · rw [cnt_col, col_len]; omega
/-! ### the middle by weights -/
theorem wP_zip {xs : List Sheet} {w : List Int} (f : Nat) (p : Int → Bool) : wP (fun x => p (x.getD f 0)) (xs.zip w) = wsum (((col xs f).zip w).filter fun z => p z.1) := by
  unfold col
  induction xs generalizing w with
  | nil => simp [wP, wsum]
  | cons x xs ih =>
    cases w with
    | nil => simp [wP, wsum]
    | cons a w =>
      rw [List.zip_cons_cons, List.map_cons, List.zip_cons_cons, List.filter_cons, wP, ih]
      cases hp : p (x.getD f 0) <;> simp [hp, wsum]
theorem exists_pred {l : List Int} {v : Int} (h : ∃ u ∈ l, u < v) : ∃ u ∈ l, u < v ∧ ∀ t ∈ l, t < v → t ≤ u := by
  obtain ⟨u0, hu0, hlt⟩ := h
  obtain ⟨m, hm, hM⟩ := exists_max (c := l.filter fun u => decide (u < v)) (by
    intro e
    have : u0 ∈ l.filter fun u => decide (u < v) := List.mem_filter.mpr ⟨hu0, by simpa using hlt⟩
    rw [e] at this
    cases this)
  obtain ⟨m1, m2⟩ := List.mem_filter.mp hm
  exact ⟨m, m1, by simpa using m2, fun t ht htv => hM t (List.mem_filter.mpr ⟨ht, by simpa using htv⟩)⟩
theorem wm_maj {xs : List Sheet} {w : List Int} {n : Nat} {v : Sheet} (lw : w.length = xs.length) (hw : ∀ x ∈ w, 1 ≤ x) (hodd : w.sum % 2 = 1) (h : IsWM xs w n v) : MajW (xs.zip w) n v := fun f hf => by
  have hv : v[f]? = some (v.getD f 0) := by
    rw [List.getD_eq_getElem?_getD, List.getElem?_eq_getElem (by rw [h.1]; exact hf)]
    rfl
  obtain ⟨i1, i2, i3⟩ := h.2 f _ hv
  generalize v.getD f 0 = a at *
  have lc : (col xs f).length = w.length := by rw [col_len, lw]
  have hz : ∀ z ∈ (col xs f).zip w, 1 ≤ z.2 := fun z hz => hw _ (List.of_mem_zip hz).2
  have eall : wP (fun _ => true) (xs.zip w) = wsum ((col xs f).zip w) := by
    have := wP_zip (xs := xs) (w := w) f fun _ => true
    rw [this, List.filter_eq_self.mpr fun _ _ => rfl]
  have eS : wsum ((col xs f).zip w) = w.sum := wsum_zip lc
  refine ⟨?_, ?_⟩
  · rw [eall, wP_zip f fun y => decide (y ≤ a)]
    exact i2
  · rw [eall, wP_zip f fun y => decide (a ≤ y)]
    show wsum ((col xs f).zip w) < 2 * wsum (((col xs f).zip w).filter fun z => decide (a ≤ z.1))
    -- what is less weighs at most half
    have hlt : 2 * wsum (((col xs f).zip w).filter fun z => !decide (a ≤ z.1)) ≤ wsum ((col xs f).zip w) := by
      by_cases hex : ∃ u ∈ ((col xs f).zip w).map (·.1), u < a
      · obtain ⟨u, hu, hua, hub⟩ := exists_pred hex
        have e : (((col xs f).zip w).filter fun z => !decide (a ≤ z.1)) = ((col xs f).zip w).filter fun z => decide (z.1 ≤ u) := List.filter_congr fun z hz => by
          by_cases hza : z.1 < a
          · have := hub z.1 (List.mem_map_of_mem hz) hza
            have h1 : ¬ a ≤ z.1 := by omega
            simp [h1, this]
          · have h1 : a ≤ z.1 := by omega
            have h2 : ¬ z.1 ≤ u := by omega
            simp [h1, h2]
        rw [e]
        have : ¬ wsum ((col xs f).zip w) < 2 * upW ((col xs f).zip w) u := fun hU => by
          have := i3 u hu hU
          omega
        exact Int.not_lt.mp this
      · have e : (((col xs f).zip w).filter fun z => !decide (a ≤ z.1)) = [] := List.filter_eq_nil_iff.mpr fun z hz => by
          have : ¬ z.1 < a := fun hh => hex ⟨z.1, List.mem_map_of_mem hz, hh⟩
          have h1 : a ≤ z.1 := by omega
          simp [h1]
        rw [e]
        have := wsum_nn hz
        simpa [wsum] using this
    have sp : ∀ (p : Pr → Bool) (l : List Pr), wsum (l.filter p) + wsum (l.filter fun z => !p z) = wsum l := fun p l => by
      induction l with
      | nil => rfl
      | cons z l ih =>
        unfold wsum at ih ⊢
        rw [List.filter_cons, List.filter_cons]
        cases p z <;> simp <;> omega
    have sp2 : wsum (((col xs f).zip w).filter fun z => decide (a ≤ z.1)) + wsum (((col xs f).zip w).filter fun z => !decide (a ≤ z.1)) = wsum ((col xs f).zip w) := sp (fun z => decide (a ≤ z.1)) ((col xs f).zip w)
    omega
theorem wm_mem {xs : List Sheet} {w : List Int} {n f : Nat} {v : Sheet} (lw : w.length = xs.length) (h : IsWM xs w n v) (hf : f < n) : ∃ x ∈ xs, v.getD f 0 = x.getD f 0 := by
  have hv : v[f]? = some (v.getD f 0) := by
    rw [List.getD_eq_getElem?_getD, List.getElem?_eq_getElem (by rw [h.1]; exact hf)]
    rfl
  have := (h.2 f _ hv).1
  rw [List.map_fst_zip (by rw [col_len]; omega)] at this
  unfold col at this
  obtain ⟨x, hx, e⟩ := List.mem_map.mp this
  exact ⟨x, hx, e.symm⟩

/-! k84: counts, rules. -/
def prodI (cs : List Int) : Int := cs.foldl (· * ·) 1
theorem prodI_snoc (cs : List Int) (c : Int) : prodI (cs ++ [c]) = prodI cs * c := by unfold prodI; rw [List.foldl_append]; rfl
theorem allS_len {fs : List Fld} (ok : ∀ f ∈ fs, okF f) : ((allS fs).length : Int) = prodI (fs.map cnt) := by
  induction h : fs.length generalizing fs with
  | zero => rw [List.length_eq_zero_iff.mp h]; rfl
  | succ n ih =>
    have hne : fs ≠ [] := by intro e; rw [e] at h; simp at h
    have e0 := List.dropLast_concat_getLast hne
    have ihd := ih (fs := fs.dropLast) (fun f m => ok f (List.dropLast_subset _ m)) (by simp [h])
    have ol := ok (fs.getLast hne) (List.getLast_mem hne)
    rw [← e0, allS_snoc, allU_len, List.map_append, List.map_singleton, prodI_snoc, ← ihd, Int.natCast_mul]
    congr 1
    unfold vals cnt
    rw [List.length_map, List.length_range]
    obtain ⟨o1, _⟩ := ol
    omega
def P_counts (ts : List T) (K : T → Prop) : Prop := ∃ most : Int, ts = [.int most] ∧ 1 ≤ most ∧ most ≤ 1000000 ∧ ∀ cs : List Int, cs.length ≤ 7 → (∀ c ∈ cs, 1 ≤ c ∧ c ≤ 4) → prodI cs ≤ most → K (.lst true (cs.map .int))
theorem c_counts {most : Int} {K : T → Prop} (h1 : 1 ≤ most) (h2 : most ≤ 1000000) (k : ∀ cs : List Int, cs.length ≤ 7 → (∀ c ∈ cs, 1 ≤ c ∧ c ≤ 4) → prodI cs ≤ most → K (.lst true (cs.map .int))) : P_counts [.int most] K := ⟨most, rfl, h1, h2, k⟩
theorem fz_ints {o : Bool} {l : List Int} : fz (.lst o (l.map .int)) = .lst false (l.map .int) := by simp only [fz, fzs_of_isF _ (isFs_ints (s := l))]
/-! ### rules -/
def ltY (a b : Say) : Bool := decide ([a.1, a.2.1, a.2.2] < [b.1, b.2.1, b.2.2])
theorem ltT_yT (a b : Say) : ltT (yT a) (yT b) = ltY a b := by
  unfold ltT ltY
  rw [← PySem.W.dataLt_ints]
  exact PySem.W.dataLt_tuple _ _
/-- the less, the greater of two sayings -/
def mmY (mx : Bool) (a b : Say) : Say := if (if mx = true then ltY a b else ltY b a) = true then b else a
theorem mm_y {mx : Bool} {a b : Say} {K : T → Prop} (k : K (yT (mmY mx a b))) : mmP mx (yT a) (yT b) K := by
  refine m_D rfl rfl rfl rfl rfl ?_
  have : mmD mx (yT a) (yT b) = yT (mmY mx a b) := by
    unfold mmD mmY
    rw [ltT_yT, ltT_yT]
    split <;> split <;> rfl
  rw [this]
  exact k
theorem ltY_eq (a b : Say) : ltY a b = decide (a.1 < b.1 ∨ (a.1 = b.1 ∧ (a.2.1 < b.2.1 ∨ (a.2.1 = b.2.1 ∧ a.2.2 < b.2.2)))) := by
  unfold ltY
  refine decide_eq_decide.mpr ?_
  simp [List.cons_lt_cons_iff]
theorem ltY_tri {a b : Say} (h1 : ltY a b = false) (h2 : ltY b a = false) : a = b := by
  rw [ltY_eq, decide_eq_false_iff_not] at h1 h2
  obtain ⟨a1, a2, a3⟩ := a
  obtain ⟨b1, b2, b3⟩ := b
  simp only at h1 h2
  rw [Prod.mk.injEq, Prod.mk.injEq]
  omega
theorem ltY_asy {a b : Say} (h1 : ltY a b = true) (h2 : ltY b a = true) : False := by
  rw [ltY_eq, decide_eq_true_eq] at h1 h2
  omega
theorem mmY_two (a b : Say) : (mmY false a b = a ∧ mmY true a b = b) ∨ (mmY false a b = b ∧ mmY true a b = a) := by
  unfold mmY
  simp only [Bool.false_eq_true, if_false, if_true]
  cases h1 : ltY a b <;> cases h2 : ltY b a
  · have := ltY_tri h1 h2
    subst this
    simp
  · simp
  · simp
  · exact absurd h2 fun h2 => ltY_asy h1 h2
theorem ruleB_mm {a b : Say} {s : Sheet} : ruleB (mmY false a b, mmY true a b) s = ruleB (a, b) s := by
  rcases mmY_two a b with ⟨h1, h2⟩ | ⟨h1, h2⟩
  · rw [h1, h2]
  · rw [h1, h2]
    unfold ruleB
    exact Bool.or_comm _ _
theorem ruT_eq {a b : Say} : T.tup [yT a, yT b] = ruT (a, b) := rfl
/-- the sayings of fields -/
theorem mem_sayF {i : Nat} {f : Fld} {y : Say} : y ∈ sayF i f ↔ y.1 = (i : Int) ∧ ((y.2.1 = -1 ∧ f.2.1 ≤ y.2.2 ∧ y.2.2 < f.2.2) ∨ (y.2.1 = 1 ∧ f.2.1 < y.2.2 ∧ y.2.2 ≤ f.2.2)) := by
  unfold sayF dnL upL
  rw [List.mem_append, List.mem_map, List.mem_map]
  obtain ⟨y1, y2, y3⟩ := y
  simp only [Prod.mk.injEq, List.mem_range]
  constructor
  · rintro (⟨k, hk, rfl, rfl, rfl⟩ | ⟨k, hk, rfl, rfl, rfl⟩)
    · exact ⟨rfl, .inl ⟨rfl, by omega, by omega⟩⟩
    · exact ⟨rfl, .inr ⟨rfl, by omega, by omega⟩⟩
  · rintro ⟨rfl, ⟨rfl, h1, h2⟩ | ⟨rfl, h1, h2⟩⟩
    · exact .inl ⟨(y3 - f.2.1).toNat, by omega, rfl, rfl, by omega⟩
    · exact .inr ⟨(y3 - f.2.1 - 1).toNat, by omega, rfl, rfl, by omega⟩
theorem mem_sayU {y : Say} : ∀ {n : Nat} {fs : List Fld}, y ∈ sayU n fs ↔ ∃ (i : Nat) (f : Fld), fs[i]? = some f ∧ y ∈ sayF (n + i) f
  | n, [] => by simp [sayU]
  | n, g :: fs => by
    rw [sayU, List.mem_append, mem_sayU]
    constructor
    · rintro (h | ⟨i, f, h1, h2⟩)
      · exact ⟨0, g, rfl, h⟩
      · exact ⟨i + 1, f, by simpa using h1, by rw [show n + (i + 1) = n + 1 + i by omega]; exact h2⟩
    · rintro ⟨i, f, h1, h2⟩
      cases i with
      | zero => cases h1; exact .inl h2
      | succ i => exact .inr ⟨i, f, by simpa using h1, by rw [show n + 1 + i = n + (i + 1) by omega]; exact h2⟩
/-- a saying of fields -/
def SayOf (fs : List Fld) (y : Say) : Prop := ∃ (i : Nat) (f : Fld), fs[i]? = some f ∧ y.1 = (i : Int) ∧ ((y.2.1 = -1 ∧ f.2.1 ≤ y.2.2 ∧ y.2.2 < f.2.2) ∨ (y.2.1 = 1 ∧ f.2.1 < y.2.2 ∧ y.2.2 ≤ f.2.2))
theorem mem_sayL {fs : List Fld} {y : Say} : y ∈ sayL fs ↔ SayOf fs y := by
  unfold sayL SayOf
  rw [mem_sayU]
  constructor
  · rintro ⟨i, f, h1, h2⟩
    rw [Nat.zero_add] at h2
    exact ⟨i, f, h1, mem_sayF.mp h2⟩
  · rintro ⟨i, f, h1, h2⟩
    exact ⟨i, f, h1, by rw [Nat.zero_add]; exact mem_sayF.mpr h2⟩
theorem SayOf.okY {fs : List Fld} {y : Say} (h : SayOf fs y) : okY fs.length y := by
  obtain ⟨i, f, h1, h2, h3⟩ := h
  have := (List.getElem?_eq_some_iff.mp h1).1
  refine ⟨?_, by omega, by omega⟩
  rcases h3 with h | h
  · exact .inr h.1
  · exact .inl h.1
theorem SayOf.ctr {fs : List Fld} {y : Say} (h : SayOf fs y) : SayOf fs (ctr y) := by
  obtain ⟨i, f, h1, h2, h3⟩ := h
  refine ⟨i, f, h1, h2, ?_⟩
  unfold K84.ctr
  simp only
  rcases h3 with h | h
  · exact .inr (by omega)
  · exact .inl (by omega)
theorem hin_ctr {fs : List Fld} {y : Say} (h : SayOf fs y) {s : Sheet} : hin (ctr y) s = !hin y s := by
  have w := h.okY.1
  unfold hin K84.ctr hld
  simp only
  generalize s.getD y.1.toNat 0 = a
  rcases w with w | w
  · rw [w]
    by_cases g : 0 ≤ (a - y.2.2) * 1
    · have : ¬ 0 ≤ (a - (y.2.2 - 1)) * (0 - 1) := by omega
      rw [decide_eq_true g, decide_eq_false this]; rfl
    · have : 0 ≤ (a - (y.2.2 - 1)) * (0 - 1) := by omega
      rw [decide_eq_false g, decide_eq_true this]; rfl
  · rw [w]
    by_cases g : 0 ≤ (a - y.2.2) * -1
    · have : ¬ 0 ≤ (a - (y.2.2 - -1)) * (0 - -1) := by omega
      rw [decide_eq_true g, decide_eq_false this]; rfl
    · have : 0 ≤ (a - (y.2.2 - -1)) * (0 - -1) := by omega
      rw [decide_eq_false g, decide_eq_true this]; rfl
theorem mmY_say {P : Say → Prop} {mx : Bool} {a b : Say} (ha : P a) (hb : P b) : P (mmY mx a b) := by
  rcases mmY_two a b with ⟨h1, h2⟩ | ⟨h1, h2⟩ <;> cases mx
  · rw [h1]; exact ha
  · rw [h2]; exact hb
  · rw [h1]; exact hb
  · rw [h2]; exact ha
def okRu (fs : List Fld) (base : Sheet) (r : Rule) : Prop := SayOf fs r.1 ∧ SayOf fs r.2 ∧ ruleB r base = true
def P_rules (ts : List T) (K : T → Prop) : Prop := ∃ fs base m, ts = [fsT fs, .int m, sT base] ∧ OkFs fs ∧ Box fs base ∧ 0 ≤ m ∧ m ≤ 60 ∧ ∀ rs : List Rule, (∀ r ∈ rs, okRu fs base r) → rs.length ≤ 60 → K (rsT rs)
theorem c_rules {fs : List Fld} {base : Sheet} {m : Int} {K : T → Prop} (ok : OkFs fs) (hb : Box fs base) (m0 : 0 ≤ m) (m1 : m ≤ 60) (k : ∀ rs : List Rule, (∀ r ∈ rs, okRu fs base r) → rs.length ≤ 60 → K (rsT rs)) : P_rules [fsT fs, .int m, sT base] K := ⟨fs, base, m, rfl, ok, hb, m0, m1, k⟩
theorem k_iL {o : Bool} {l : List Say} {r : Int} {K : T → Prop} (h0 : 0 ≤ r) (h1 : r < ((l.map yT).length : Nat)) (k : ∀ y ∈ l, K (yT y)) : kIdx (.lst o (l.map yT)) (.int r) K := by
  rw [List.length_map] at h1
  obtain ⟨n, rfl⟩ : ∃ n : Nat, r = (n : Int) := ⟨r.toNat, by omega⟩
  have hn : n < l.length := by omega
  exact k_idx (v := yT l[n]) (L2.atI_nat (by simp [hn])) isF_yT (k _ (List.getElem_mem hn))
theorem isFs_ruT {rs : List Rule} : isFs (rs.map ruT) = true := isFs_map (fun _ => rfl) rs
local macro_rules | `(tactic| walk_at "pl_isf1") => `(tactic| first | with_reducible exact isFs_ruT)
/-- sorted(set(rules)) -/
theorem sset_ru {rs : List Rule} {K : T → Prop} (hl : rs.length < 64) (k : ∀ rs' : List Rule, (∀ r, r ∈ rs' ↔ r ∈ rs) → rs'.length ≤ rs.length → rs'.Nodup → K (.lst true (rs'.map ruT))) : ssetP (.lst true (rs.map ruT)) K := by
  have inj : ∀ a b : Rule, ruT a = ruT b → a = b := fun a b h => by
    obtain ⟨⟨a1, a2, a3⟩, b1, b2, b3⟩ := a
    obtain ⟨⟨c1, c2, c3⟩, d1, d2, d3⟩ := b
    simp only [ruT, yT, T.tup.injEq, List.cons.injEq, T.int.injEq, and_true] at h
    obtain ⟨⟨rfl, rfl, rfl⟩, rfl, rfl, rfl⟩ := h
    rfl
  refine m_set isFs_ruT (by rw [List.length_map]; exact hl) (fun t ht => ?_) ⟨fun d hd d' hd' => ?_, .inl fun d hd => ?_, fun x hx => ?_⟩ fun zs nd hz => ?_
  · obtain ⟨r, _, rfl⟩ := List.mem_map.mp ht
    rfl
  · rw [datas_map] at hd hd'
    obtain ⟨x, hx, rfl⟩ := List.mem_map.mp hd
    obtain ⟨y, hy, rfl⟩ := List.mem_map.mp hd'
    obtain ⟨a, _, rfl⟩ := List.mem_map.mp hx
    obtain ⟨b, _, rfl⟩ := List.mem_map.mp hy
    rfl
  · rw [datas_map] at hd
    obtain ⟨x, hx, rfl⟩ := List.mem_map.mp hd
    obtain ⟨a, _, rfl⟩ := List.mem_map.mp hx
    exact ⟨_, _, rfl⟩
  · obtain ⟨a, _, rfl⟩ := List.mem_map.mp hx
    rfl
  · have hp := List.mergeSort_perm zs (PySem.W.dataLe false data)
    generalize zs.mergeSort (PySem.W.dataLe false data) = L at hp
    have hL : ∀ t, t ∈ L ↔ t ∈ rs.map ruT := fun t => hp.mem_iff.trans (hz t)
    have nL : L.Nodup := hp.nodup_iff.mpr nd
    obtain ⟨rs', rfl⟩ : ∃ rs' : List Rule, L = rs'.map ruT := by
      clear hp nL
      have : ∀ t ∈ L, t ∈ rs.map ruT := fun t => (hL t).mp
      clear hL
      induction L with
      | nil => exact ⟨[], rfl⟩
      | cons t L ih =>
        obtain ⟨l, rfl⟩ := ih fun x hx => this x (List.mem_cons_of_mem _ hx)
        obtain ⟨r, _, rfl⟩ := List.mem_map.mp (this t List.mem_cons_self)
        exact ⟨r :: l, rfl⟩
    have hm : ∀ r, r ∈ rs' ↔ r ∈ rs := fun r => by
      have := hL (ruT r)
      constructor
      · intro h
        obtain ⟨x, hx, e⟩ := List.mem_map.mp (this.mp (List.mem_map_of_mem h))
        rw [← inj _ _ e]; exact hx
      · intro h
        obtain ⟨x, hx, e⟩ := List.mem_map.mp (this.mpr (List.mem_map_of_mem h))
        rw [← inj _ _ e]; exact hx
    have nd' : rs'.Nodup := by
      unfold List.Nodup at nL ⊢
      rw [List.pairwise_map] at nL
      exact nL.imp fun h e => h (by rw [e])
    exact k rs' hm (List.Nodup.length_le_of_subset nd' fun x hx => (hm x).mp hx) nd'
section
variable {Φ : Nat → Spec}
theorem v_counts (h6 : Φ 6 = spL Pool P_pick) : VP Φ [true, false] P_counts il__law_counts 7 := by
  rintro ts Q - am ⟨p, rest, rfl, hp, most, rfl, m1, m2, q⟩
  show wpSs Φ il__law_counts _ [some (.lst true p), some (.int most), none, none, none, none, none]
  unfold il__law_counts
  have sl : sizeLine = 16777216 := rfl
  walk_at "pl_vs"
  intro r p r0 r1 hp
  walk_at "pl_vs"
  refine k_tupP (l := [4, 4, 3, 2]) r0 r1 fun wd hwd => ?_
  have hwd : 2 ≤ wd ∧ wd ≤ 4 := by
    simp only [List.mem_cons, List.not_mem_nil, or_false] at hwd
    omega
  walk_at "pl_vs"
  intro r p r0 r1 hp
  walk_at "pl_vs"
  have hb : (0 : Int) ≤ (if decide (wd = 2) = true then 1 else 0) ∧ (if decide (wd = 2) = true then 1 else 0) ≤ (1 : Int) := by split <;> omega
  generalize (if decide (wd = 2) = true then (1 : Int) else 0) = b2 at hb ⊢
  refine ⟨by omega, by omega, ?_⟩
  refine k_for (fun j Γ => ∃ (p : List T) (cs : List Int), Pool p ∧ cs.length ≤ j ∧ (∀ c ∈ cs, 1 ≤ c ∧ c ≤ 4) ∧ 1 ≤ prodI cs ∧ prodI cs ≤ most ∧ Γ = [some (.lst true p), some (.int most), some (.lst true (cs.map .int)), some (.int (prodI cs)), some (.int wd), none, none]) ⟨p, [], hp, by simp, by simp, by decide, m1, rfl⟩ ?_ ?_
  · rintro j x Γ hx ⟨p, cs, hp, hl, hc, p1, p2, rfl⟩ again ag
    obtain ⟨hj, rfl⟩ := rng0_get hx
    have hj : j < 7 := by omega
    have hl2 : (cs.map T.int).length < sizeLine := by rw [List.length_map]; omega
    have fin : ∀ (p : List T) (many : Int), Pool p → 1 ≤ many → many ≤ 4 → prodI cs * many ≤ most → again [some (.lst true p), some (.int most), some (.lst true (cs.map .int ++ [.int many])), some (.int (prodI cs * many)), some (.int wd), none, none] := fun p many hp h1 h2 h3 =>
      ag _ ⟨p, cs ++ [many], hp, by simp; omega, fun c h => by
        rcases List.mem_append.mp h with m | m
        · exact hc c m
        · rw [List.mem_singleton.mp m]; exact ⟨h1, h2⟩, by rw [prodI_snoc]; exact Int.mul_pos (by omega : 0 < prodI cs) (by omega), by rw [prodI_snoc]; exact h3, by rw [prodI_snoc, List.map_append]; rfl⟩
    have skip : ∀ (p : List T), Pool p → again [some (.lst true p), some (.int most), some (.lst true (cs.map .int)), some (.int (prodI cs)), some (.int wd), none, none] := fun p hp => ag _ ⟨p, cs, hp, by omega, hc, p1, p2, rfl⟩
    walk_at "pl_vs"
    intro r p r0 r1 hp
    walk_at "pl_vs"
    refine k_tupP (l := [1, 2, 2, 3, 3, 4]) r0 r1 fun v hv => ?_
    have hv : 1 ≤ v ∧ v ≤ 4 := by
      simp only [List.mem_cons, List.not_mem_nil, or_false] at hv
      omega
    refine m_I ?_
    have hmn : (1 : Int) ≤ (if false = true then if v > wd then v else wd else if v < wd then v else wd) ∧ (if false = true then if v > wd then v else wd else if v < wd then v else wd) ≤ (4 : Int) := by
      rw [if_neg (by decide)]
      split <;> omega
    generalize (if false = true then if v > wd then v else wd else if v < wd then v else wd) = mn at hmn ⊢
    walk_at "pl_vs"
    · intro r p r0 r1 hp
      walk_at "pl_vs"
      · exact fin p 2 hp (by omega) (by omega) (by assumption)
      · exact skip p hp
      · exact fin p mn hp (by omega) (by omega) (by assumption)
      · exact skip p hp
    · exact fin p mn hp (by omega) (by omega) (by assumption)
    · exact skip p hp
  · rintro Γ ⟨p, cs, hp, hl, hc, p1, p2, rfl⟩
    rw [List.length_map, List.length_range] at hl
    walk_at "pl_vs"
    refine k_ioP rfl rfl (by simp) (q cs (by omega) hc p2 p hp)
theorem v_rules (h6 : Φ 6 = spL Pool P_pick) (h8 : Φ 8 = spF P_sayings) (h9 : Φ 9 = spF P_holds) (h10 : Φ 10 = spF P_contrary) : VP Φ [true, false, false, false] P_rules il__law_rules 10 := by
  rintro ts Q - am ⟨p, rest, rfl, hp, fs, base, m, rfl, ok, hb, m0, m1, q⟩
  show wpSs Φ il__law_rules _ [some (.lst true p), some (fsT fs), some (.int m), some (sT base), none, none, none, none, none, none]
  unfold il__law_rules
  have sl : sizeLine = 16777216 := rfl
  walk_at "pl_vs"
  refine c_sayings ok ?_
  walk_at "pl_vs"
  · exact k_ioP rfl rfl (by simp) (q [] (by simp) (by simp) p hp)
  · rename_i hne
    have hpos : 0 < (((sayL fs).map yT).length : Int) := by omega
    refine ⟨by omega, by omega, ?_⟩
    refine k_for (fun j Γ => ∃ (p : List T) (rs : List Rule), Pool p ∧ rs.length = j ∧ (∀ r ∈ rs, okRu fs base r) ∧ Γ = [some (.lst true p), some (fsT fs), some (.int m), some (sT base), some (.lst true ((sayL fs).map yT)), some (.lst true (rs.map ruT)), none, none, none, none]) ⟨p, [], hp, rfl, by simp, rfl⟩ ?_ ?_
    · rintro j x Γ hx ⟨p, rs, hp, hl, hr, rfl⟩ again ag
      obtain ⟨hj, rfl⟩ := rng0_get hx
      have hj : j < 60 := by omega
      have hl2 : (rs.map ruT).length < sizeLine := by rw [List.length_map]; omega
      have ib : ∀ y ∈ sayL fs, 0 ≤ y.1 ∧ y.1 < base.length := fun y hy => by
        have := (mem_sayL.mp hy).okY.2
        rw [hb.len]
        exact this
      have wy : ∀ y ∈ sayL fs, way y := fun y hy => (mem_sayL.mp hy).okY.1
      have fin : ∀ (p : List T) (y z : Say), Pool p → SayOf fs y → SayOf fs z → ruleB (y, z) base = true → again [some (.lst true p), some (fsT fs), some (.int m), some (sT base), some (.lst true ((sayL fs).map yT)), some (.lst true (rs.map ruT ++ [.tup [yT (mmY false y z), yT (mmY true y z)]])), none, none, none, none] := fun p y z hp hy hz h =>
        ag _ ⟨p, rs ++ [(mmY false y z, mmY true y z)], hp, by simp [hl], fun r h' => by
          rcases List.mem_append.mp h' with m | m
          · exact hr r m
          · rw [List.mem_singleton.mp m]; exact ⟨mmY_say hy hz, mmY_say hy hz, by rw [ruleB_mm]; exact h⟩, by rw [List.map_append]; rfl⟩
      have r1l : ∀ y z : Say, hin y base = true → ruleB (y, z) base = true := fun y z h => by unfold ruleB; rw [h]; rfl
      have r1r : ∀ y z : Say, hin z base = true → ruleB (y, z) base = true := fun y z h => by unfold ruleB; rw [h, Bool.or_true]
      walk_at "pl_vs"
      intro r p r0 r1 hp
      walk_at "pl_vs"
      refine k_iL r0 r1 fun y hy => ?_
      walk_at "pl_vs"
      intro r p r0 r1 hp
      walk_at "pl_vs"
      refine k_iL r0 r1 fun z hz => ?_
      walk_at "pl_vs"
      intro how p how0 how1 hp
      have sy := mem_sayL.mp hy
      have sz' := mem_sayL.mp hz
      walk_at "pl_vs"
      · refine k_iS (ib y hy).1 (ib y hy).2 ?_
        walk_at "pl_vs"
        refine c_holds (wy y hy) ?_
        walk_at "pl_vs"
        · refine k_iS (ib y hy).1 (ib y hy).2 ?_
          walk_at "pl_vs"
          refine c_holds (wy y hy) ?_
          walk_at "pl_vs"
          · refine c_contrary ?_
            walk_at "pl_vs"
            refine mm_y ?_
            walk_at "pl_vs"
            refine mm_y ?_
            walk_at "pl_vs"
            rename_i hn1 hn2 _
            exact fin p _ _ hp sy.ctr sy.ctr (r1l _ _ (by rw [hin_ctr sy]; exact hn1))
          · exact absurd ‹how = 0› ‹¬ how = 0›
          · exact absurd ‹how = 0› ‹¬ how = 0›
          · rename_i hn1 hn2
            exact absurd (hn1.symm.trans hn2) (by decide)
        · refine mm_y ?_
          walk_at "pl_vs"
          refine mm_y ?_
          walk_at "pl_vs"
          rename_i hn1
          exact fin p _ _ hp sy sy (r1l _ _ ((Bool.not_eq_false' _).mp hn1))
      · refine k_iS (ib y hy).1 (ib y hy).2 ?_
        walk_at "pl_vs"
        refine c_holds (wy y hy) ?_
        walk_at "pl_vs"
        · refine k_iS (ib z hz).1 (ib z hz).2 ?_
          walk_at "pl_vs"
          refine c_holds (wy z hz) ?_
          walk_at "pl_vs"
          · exact absurd ‹how = 0› ‹¬ how = 0›
          · refine c_contrary ?_
            walk_at "pl_vs"
            refine mm_y ?_
            walk_at "pl_vs"
            refine mm_y ?_
            walk_at "pl_vs"
            rename_i hn1 hn2 _ _
            exact fin p _ _ hp sy.ctr sz' (r1l _ _ (by rw [hin_ctr sy]; exact hn1))
          · refine c_contrary ?_
            walk_at "pl_vs"
            refine mm_y ?_
            walk_at "pl_vs"
            refine mm_y ?_
            walk_at "pl_vs"
            rename_i hn1 hn2 _ _
            exact fin p _ _ hp sy sz'.ctr (r1r _ _ (by rw [hin_ctr sz']; exact hn2))
          · refine mm_y ?_
            walk_at "pl_vs"
            refine mm_y ?_
            walk_at "pl_vs"
            rename_i hn1 hn2
            exact fin p _ _ hp sy sz' (r1r _ _ ((Bool.not_eq_false' _).mp hn2))
        · refine mm_y ?_
          walk_at "pl_vs"
          refine mm_y ?_
          walk_at "pl_vs"
          rename_i hn1
          exact fin p _ _ hp sy sz' (r1l _ _ ((Bool.not_eq_false' _).mp hn1))
    · rintro Γ ⟨p, rs, hp, hl, hr, rfl⟩
      rw [List.length_map, List.length_range] at hl
      walk_at "pl_vs"
      refine sset_ru (by omega) fun rs' hm hl' nd => ?_
      walk_at "pl_vs"
      exact k_ioP rfl rfl (by simp) (q rs' (fun r h => hr r ((hm r).mp h)) (by omega) p hp)
end

/-! k84: forms, weights, among. -/
def P_form (ts : List T) (K : T → Prop) : Prop := ∃ most nr : Int, ts = [.int most, .int nr] ∧ 1 ≤ most ∧ most ≤ 1000000 ∧ 0 ≤ nr ∧ nr ≤ 60 ∧ ∀ fs rs base, OkFs fs → (allS fs).length ≤ most → Box fs base → (∀ r ∈ rs, okRu fs base r) → K (.lst true [.tup [fsT fs, rsT rs], sT base])
theorem c_form {most nr : Int} {K : T → Prop} (h1 : 1 ≤ most) (h2 : most ≤ 1000000) (h3 : 0 ≤ nr) (h4 : nr ≤ 60) (k : ∀ fs rs base, OkFs fs → (allS fs).length ≤ most → Box fs base → (∀ r ∈ rs, okRu fs base r) → K (.lst true [.tup [fsT fs, rsT rs], sT base])) : P_form [.int most, .int nr] K := ⟨most, nr, rfl, h1, h2, h3, h4, k⟩
def P_rising (ts : List T) (K : T → Prop) : Prop := ∃ most : Int, ts = [.int most] ∧ 1 ≤ most ∧ most ≤ 1000000 ∧ ∀ fs rs base, OkFs fs → (allS fs).length ≤ most → Box fs base → (∀ r ∈ rs, okRu fs base r ∧ risR r) → K (.lst true [.tup [fsT fs, rsT rs], sT base])
theorem c_rising {most : Int} {K : T → Prop} (h1 : 1 ≤ most) (h2 : most ≤ 1000000) (k : ∀ fs rs base, OkFs fs → (allS fs).length ≤ most → Box fs base → (∀ r ∈ rs, okRu fs base r ∧ risR r) → K (.lst true [.tup [fsT fs, rsT rs], sT base])) : P_rising [.int most] K := ⟨most, rfl, h1, h2, k⟩
/-- an answer of each field -/
theorem box_rel {fs : List Fld} {ys : List T} (h : Rel2 (fun x y => ∃ f v, f ∈ fs ∧ x = fldT f ∧ y = .int v ∧ (f.2.1 ≤ v ∧ v ≤ f.2.2)) (fs.map fldT) ys) : ∃ b : Sheet, ys = b.map .int ∧ Box fs b := by
  obtain ⟨b, e, hl, hb⟩ := Rel2.ints (R := fun (f : Fld) v => f.2.1 ≤ v ∧ v ≤ f.2.2) h fun a b e v hv => by
    obtain ⟨a1, a2, a3⟩ := a
    obtain ⟨b1, b2, b3⟩ := b
    simp only [fldT, T.tup.injEq, List.cons.injEq, T.int.injEq, T.str.injEq, and_true] at e
    obtain ⟨rfl, rfl, rfl⟩ := e
    exact hv
  exact ⟨b, e, ⟨hl, fun i f a h1 h2 => hb i f a h1 h2⟩⟩
theorem most_len {fs : List Fld} {cs : List Int} {most : Int} (ok : OkFs fs) (h : fs.map cnt = cs) (p : prodI cs ≤ most) : ((allS fs).length : Int) ≤ most := by
  rw [allS_len ok.2, h]
  exact p
def P_weights (ts : List T) (K : T → Prop) : Prop := ∃ m : Int, ts = [.int m] ∧ 1 ≤ m ∧ m ≤ 200 ∧ ∀ w : List Int, w.length = m → (∀ x ∈ w, 1 ≤ x) → w.sum % 2 = 1 → K (.tup (w.map .int))
theorem c_weights {m : Int} {K : T → Prop} (h1 : 1 ≤ m) (h2 : m ≤ 200) (k : ∀ w : List Int, w.length = m → (∀ x ∈ w, 1 ≤ x) → w.sum % 2 = 1 → K (.tup (w.map .int))) : P_weights [.int m] K := ⟨m, rfl, h1, h2, k⟩
theorem sum_set : ∀ {l : List Int} {i : Nat} {v : Int}, i < l.length → (l.set i v).sum = l.sum - l.getD i 0 + v
  | [], i, v, h => by simp at h
  | x :: l, 0, v, _ => by simp; omega
  | x :: l, i + 1, v, h => by
    have := sum_set (l := l) (i := i) (v := v) (by simpa using h)
    simp only [List.set_cons_succ, List.sum_cons, List.getD_cons_succ, this]
    omega
theorem ixN_cast {n i : Nat} (h : i < n) : L2.ixN n (i : Int) = some i := by
  unfold L2.ixN
  simp
  omega
def P_among (ts : List T) (K : T → Prop) : Prop := ∃ (xs : List Sheet) (s : Sheet), ts = [.lst false (xs.map sT), sT s] ∧ (∀ x ∈ xs, x.length ≤ 12) ∧ s ∈ xs ∧ K (.bl true)
theorem c_among {xs : List Sheet} {s : Sheet} {K : T → Prop} (h : ∀ x ∈ xs, x.length ≤ 12) (m : s ∈ xs) (k : K (.bl true)) : P_among [.lst false (xs.map sT), sT s] K := ⟨xs, s, rfl, h, m, k⟩
theorem okS_ints : ∀ l : List Int, okSs (l.map .int) = true
  | [] => rfl
  | x :: l => by simp only [List.map_cons, okSs, okS, okS_ints l, Bool.and_self]
theorem okS_sT {s : Sheet} : okS (sT s) = true := okS_ints s
theorem szs_ints : ∀ l : List Int, szs (l.map .int) = l.length
  | [] => rfl
  | x :: l => by simp only [List.map_cons, szs, sz, szs_ints l, List.length_cons]; omega
theorem sz_sT {s : Sheet} : sz (sT s) = 1 + s.length := by show 1 + szs (s.map .int) = _; rw [szs_ints]
theorem sT_inj {a b : Sheet} (h : sT a = sT b) : a = b := ints_inj (T.tup.inj h)
section
variable {Φ : Nat → Spec}
theorem v_among (h20 : Φ 20 = spF P_same) : VC Φ [false, false] P_among il__law_among 3 := by
  rintro ts Q - - ⟨xs, s, rfl, hx, hm, q⟩
  show wpSs Φ il__law_among _ [some (.lst false (xs.map sT)), some (sT s), none]
  unfold il__law_among
  walk_at "pl_vs"
  refine k_for (fun i Γ => s ∉ xs.take i ∧ Γ = [some (.lst false (xs.map sT)), some (sT s), none]) ⟨by simp, rfl⟩ ?_ ?_
  · rintro i x Γ hxi ⟨hn, rfl⟩ again ag
    rw [List.getElem?_map] at hxi
    obtain ⟨y, hy, rfl⟩ := Option.map_eq_some_iff.mp hxi
    have hl := hx y (List.mem_of_getElem? hy)
    walk_at "pl_vs"
    refine c_same okS_sT okS_sT (by rw [sz_sT]; omega) ?_
    walk_at "pl_vs"
    · exact q
    · rename_i hf
      refine ag _ ⟨?_, rfl⟩
      rw [List.take_add_one, hy]
      intro h
      rcases List.mem_append.mp h with h | h
      · exact hn h
      · simp only [Option.toList_some, List.mem_singleton] at h
        subst h
        rw [sameT_self okS_sT] at hf
        cases hf
  · rintro Γ ⟨hn, rfl⟩
    rw [List.length_map, List.take_length] at hn
    exact absurd hm hn
theorem v_weights (h6 : Φ 6 = spL Pool P_pick) : VP Φ [true, false] P_weights il__law_weights 6 := by
  rintro ts Q - am ⟨p, rest, rfl, hp, m, rfl, m1, m2, q⟩
  show wpSs Φ il__law_weights _ [some (.lst true p), some (.int m), none, none, none, none]
  unfold il__law_weights
  have sl : sizeLine = 16777216 := rfl
  walk_at "pl_vs"
  intro r p r0 r1 hp
  walk_at "pl_vs"
  refine k_tupP (l := [1, 3, 9, 10 ^ (6 : Int).toNat - 1]) r0 r1 fun hi hhi => ?_
  have hhi : 1 ≤ hi ∧ hi < 1000000 := by
    have e6 : (10 : Int) ^ (6 : Int).toNat = 1000000 := by decide
    simp only [e6, List.mem_cons, List.not_mem_nil, or_false] at hhi
    omega
  walk_at "pl_vs"
  refine ⟨by omega, by omega, ?_⟩
  refine k_cap (show _ ≤ sizeLine by rw [List.length_map, List.length_range]; omega) ?_
  refine k_lcP 0 (fun x y => ∃ (k : Nat) (v : Int), k ∈ List.range m.toNat ∧ x = .int (k : Int) ∧ y = .int v ∧ 1 ≤ v) hp rfl (by decide) (fun x hx p hp Kk kk => ?_) ?_
  · obtain ⟨k, hk, rfl⟩ := List.mem_map.mp hx
    refine k_bind (Γ2 := [some (.lst true p), some (.int m), some (.int hi), none, some (.int (k : Int)), none]) rfl ?_
    walk_at "pl_vs"
    intro r p r0 r1 hp
    walk_at "pl_vs"
    exact kk _ _ p ⟨k, _, hk, rfl, rfl, by have := Int.emod_nonneg (r * 163) (show hi ≠ 0 by omega); omega⟩ hp rfl
  · intro ys p hys hp
    obtain ⟨w, rfl, lw, hw⟩ := Rel2.ints (g := fun k : Nat => T.int (k : Int)) (R := fun _ v => 1 ≤ v) hys fun _ _ _ v h => h
    rw [List.length_range] at lw
    have hw1 : ∀ x ∈ w, 1 ≤ x := fun x hx => by
      obtain ⟨i, hi⟩ := List.mem_iff_getElem?.mp hx
      have := (List.getElem?_eq_some_iff.mp hi).1
      exact hw i i x (by rw [List.getElem?_range (by omega)]) hi
    refine k_bind (Γ2 := [some (.lst true p), some (.int m), some (.int hi), some (.lst true (w.map .int)), none, none]) rfl ?_
    walk_at "pl_vs"
    refine b_sum (intsT_ints w) ?_
    walk_at "pl_vs"
    · intro r p r0 r1 hp
      obtain ⟨n, rfl⟩ : ∃ n : Nat, r = (n : Int) := ⟨r.toNat, by omega⟩
      have hn : n < w.length := by omega
      walk_at "pl_vs"
      refine k_idx (at_ints (l := w) (m := (n : Int)) (by omega) (by omega)) rfl ?_
      walk_at "pl_vs"
      refine k_setL (q := n) rfl rfl (ixN_cast (by rw [List.length_map]; exact hn)) ?_
      simp only [List.set_cons_zero, List.set_cons_succ]
      rw [show (w.map T.int).set n (T.int (w.getD (n : Int).toNat 0 + 1)) = (w.set n (w.getD n 0 + 1)).map T.int by rw [List.map_set]; rfl]
      walk_at "pl_vs"
      refine k_ioP rfl rfl (by simp) (q (w.set n (w.getD n 0 + 1)) (by rw [List.length_set]; omega) (fun x hx => ?_) ?_ p hp)
      · rcases List.mem_or_eq_of_mem_set hx with h | h
        · exact hw1 x h
        · have := hw1 (w.getD n 0) (by rw [List.getD_eq_getElem?_getD, List.getElem?_eq_getElem hn]; exact List.getElem_mem hn)
          omega
      · rw [sum_set hn]
        omega
    · rename_i he
      refine k_ioP rfl rfl (by simp) (q w (by omega) hw1 (by omega) p hp)
theorem v_form (h6 : Φ 6 = spL Pool P_pick) (h7 : Φ 7 = spL Pool P_fields) (h16 : Φ 16 = spL Pool P_rules) (h17 : Φ 17 = spL Pool P_counts) : VP Φ [true, false, false] P_form il__law_form 8 := by
  rintro ts Q - am ⟨p, rest, rfl, hp, most, nr, rfl, m1, m2, n0, n1, q⟩
  show wpSs Φ il__law_form _ [some (.lst true p), some (.int most), some (.int nr), none, none, none, none, none]
  unfold il__law_form
  have sl : sizeLine = 16777216 := rfl
  walk_at "pl_vs"
  refine k_lend0 h17 hp (by walk_at "pl_vA") (c_counts m1 m2 fun cs hcl hc hpr p hp => ?_)
  rw [fz_ints]
  walk_at "pl_vs"
  refine k_lend0 h7 hp (by walk_at "pl_vA") (c_fields (by omega) (fun c h => by have := hc c h; omega) fun fs ok hcnt p hp => ?_)
  walk_at "pl_vs"
  refine k_lcP 0 (fun x y => ∃ (f : Fld) (v : Int), f ∈ fs ∧ x = fldT f ∧ y = .int v ∧ (f.2.1 ≤ v ∧ v ≤ f.2.2)) hp rfl (by decide) (fun x hx p hp Kk kk => ?_) ?_
  · obtain ⟨f, hf, rfl⟩ := List.mem_map.mp hx
    obtain ⟨o1, o2, o3, o4⟩ := ok.2 f hf
    refine k_bind (Γ2 := [some (.lst true p), some (.int most), some (.int nr), some (fsT fs), none, some (.str f.1), some (.int f.2.1), some (.int f.2.2)]) rfl ?_
    walk_at "pl_vs"
    intro r p r0 r1 hp
    walk_at "pl_vs"
    exact kk _ _ p ⟨f, _, hf, rfl, rfl, by omega, by omega⟩ hp rfl
  · intro ys p hys hp
    obtain ⟨base, rfl, hb⟩ := box_rel hys
    refine b_tupL isFs_ints ?_
    refine k_bind (Γ2 := [some (.lst true p), some (.int most), some (.int nr), some (fsT fs), some (sT base), none, none, none]) rfl ?_
    walk_at "pl_vs"
    intro r p r0 r1 hp
    walk_at "pl_vs"
    refine k_lend0 h16 hp (by walk_at "pl_vA") (c_rules ok hb r0 (by omega) fun rs hr hrl p hp => ?_)
    walk_at "pl_vs"
    exact k_ioP rfl rfl (by simp) (q fs rs base ok (most_len ok hcnt hpr) hb hr p hp)
theorem v_rising (h6 : Φ 6 = spL Pool P_pick) (h7 : Φ 7 = spL Pool P_fields) (h8 : Φ 8 = spF P_sayings) (h9 : Φ 9 = spF P_holds) (h10 : Φ 10 = spF P_contrary) (h17 : Φ 17 = spL Pool P_counts) : VP Φ [true, false] P_rising il__law_rising 14 := by
  rintro ts Q - am ⟨p, rest, rfl, hp, most, rfl, m1, m2, q⟩
  show wpSs Φ il__law_rising _ [some (.lst true p), some (.int most), none, none, none, none, none, none, none, none, none, none, none, none]
  unfold il__law_rising
  have sl : sizeLine = 16777216 := rfl
  walk_at "pl_vs"
  refine k_lend0 h17 hp (by walk_at "pl_vA") (c_counts m1 m2 fun cs hcl hc hpr p hp => ?_)
  rw [fz_ints]
  walk_at "pl_vs"
  refine k_lend0 h7 hp (by walk_at "pl_vA") (c_fields (by omega) (fun c h => by have := hc c h; omega) fun fs ok hcnt p hp => ?_)
  walk_at "pl_vs"
  refine k_lcP 0 (fun x y => ∃ (f : Fld) (v : Int), f ∈ fs ∧ x = fldT f ∧ y = .int v ∧ (f.2.1 ≤ v ∧ v ≤ f.2.2)) hp rfl (by decide) (fun x hx p hp Kk kk => ?_) ?_
  · obtain ⟨f, hf, rfl⟩ := List.mem_map.mp hx
    obtain ⟨o1, o2, o3, o4⟩ := ok.2 f hf
    refine k_bind (Γ2 := [some (.lst true p), some (.int most), some (fsT fs), none, some (.str f.1), some (.int f.2.1), some (.int f.2.2), none, none, none, none, none, none, none]) rfl ?_
    walk_at "pl_vs"
    intro r p r0 r1 hp
    walk_at "pl_vs"
    exact kk _ _ p ⟨f, _, hf, rfl, rfl, by omega, by omega⟩ hp rfl
  · intro ys p hys hp
    obtain ⟨base, rfl, hb⟩ := box_rel hys
    refine b_tupL isFs_ints ?_
    refine k_bind (Γ2 := [some (.lst true p), some (.int most), some (fsT fs), some (sT base), none, none, none, none, none, none, none, none, none, none]) rfl ?_
    walk_at "pl_vs"
    refine c_sayings ok ?_
    refine k_bind rfl ?_
    refine s_cons ?_
    refine s_frz rfl ?_
    simp only [List.set_cons_zero, List.set_cons_succ]
    rw [show fz (.lst true ((sayL fs).map yT)) = .lst false ((sayL fs).map yT) by simp only [fz, fzs_of_isF _ isFs_yT]]
    walk_at "pl_vs"
    intro r p r0 r1 hp
    walk_at "pl_vs"
    have hb01 : (0 : Int) ≤ (if decide (0 < (((sayL fs).map yT).length : Int)) = true then 1 else 0) ∧ (if decide (0 < (((sayL fs).map yT).length : Int)) = true then 1 else 0) ≤ (1 : Int) ∧ ((if decide (0 < (((sayL fs).map yT).length : Int)) = true then 1 else 0) = (1 : Int) → 0 < (((sayL fs).map yT).length : Int)) := by
      split
      · rename_i h; exact ⟨by omega, by omega, fun _ => of_decide_eq_true h⟩
      · exact ⟨by omega, by omega, fun h => absurd h (by decide)⟩
    generalize (if decide (0 < (((sayL fs).map yT).length : Int)) = true then (1 : Int) else 0) = b01 at hb01 ⊢
    obtain ⟨b0, b1, b2⟩ := hb01
    have hr12 : 0 ≤ r * b01 ∧ r * b01 ≤ 12 ∧ (0 < r * b01 → b01 = 1) := by
      have : b01 = 0 ∨ b01 = 1 := by omega
      rcases this with rfl | rfl <;> omega
    generalize r * b01 = turns at hr12 ⊢
    obtain ⟨t0, t1, t2⟩ := hr12
    refine ⟨by omega, by omega, ?_⟩
    refine k_for (fun j Γ => ∃ (p : List T) (rs : List Rule), Pool p ∧ rs.length = j ∧ (∀ r ∈ rs, okRu fs base r ∧ risR r) ∧ Γ = [some (.lst true p), some (.int most), some (fsT fs), some (sT base), none, none, none, some (.lst false ((sayL fs).map yT)), some (.lst true (rs.map ruT)), none, none, none, none, none]) ⟨p, [], hp, rfl, by simp, rfl⟩ ?_ ?_
    · rintro j x Γ hx ⟨p, rs, hp, hl, hr, rfl⟩ again ag
      obtain ⟨hj, rfl⟩ := rng0_get hx
      have hpos : 0 < (((sayL fs).map yT).length : Int) := b2 (t2 (by omega))
      have hl2 : (rs.map ruT).length < sizeLine := by rw [List.length_map]; omega
      have ib : ∀ y ∈ sayL fs, 0 ≤ y.1 ∧ y.1 < base.length := fun y hy => by
        have := (mem_sayL.mp hy).okY.2
        rw [hb.len]
        exact this
      have wy : ∀ y ∈ sayL fs, way y := fun y hy => (mem_sayL.mp hy).okY.1
      have fin : ∀ (p : List T) (y z : Say), Pool p → SayOf fs y → SayOf fs z → ruleB (y, z) base = true → risR (y, z) → again [some (.lst true p), some (.int most), some (fsT fs), some (sT base), none, none, none, some (.lst false ((sayL fs).map yT)), some (.lst true (rs.map ruT ++ [.tup [yT (mmY false y z), yT (mmY true y z)]])), none, none, none, none, none] := fun p y z hp hy hz h hri =>
        ag _ ⟨p, rs ++ [(mmY false y z, mmY true y z)], hp, by simp [hl], fun r h' => by
          rcases List.mem_append.mp h' with m | m
          · exact hr r m
          · rw [List.mem_singleton.mp m]
            refine ⟨⟨mmY_say hy hz, mmY_say hy hz, by rw [ruleB_mm]; exact h⟩, ?_⟩
            unfold risR at hri ⊢
            simp only at hri ⊢
            rcases mmY_two y z with ⟨h1, h2⟩ | ⟨h1, h2⟩
            · rw [h1, h2]; exact hri
            · rw [h1, h2]; exact hri.imp (fun h => h.symm) (fun h => h.symm), by rw [List.map_append]; rfl⟩
      have r1l : ∀ y z : Say, hin y base = true → ruleB (y, z) base = true := fun y z h => by unfold ruleB; rw [h]; rfl
      have r1r : ∀ y z : Say, hin z base = true → ruleB (y, z) base = true := fun y z h => by unfold ruleB; rw [h, Bool.or_true]
      walk_at "pl_vs"
      intro r p r0 r1 hp
      walk_at "pl_vs"
      refine k_iL r0 r1 fun y hy => ?_
      have sy := mem_sayL.mp hy
      walk_at "pl_vs"
      refine k_lc (fun x => match x with | .tup [a, .int w, c] => if (!decide (w = y.2.1)) = true then some (.tup [a, .int w, c]) else none | _ => none) (fun x hx Kk kk => ?_) ?_
      · obtain ⟨z, hz, rfl⟩ := List.mem_map.mp hx
        refine k_bind (Γ2 := [some (.lst true p), some (.int most), some (fsT fs), some (sT base), none, none, none, some (.lst false ((sayL fs).map yT)), some (.lst true (rs.map ruT)), some (.int (j : Int)), some (yT y), none, some (yT z), none]) rfl ?_
        have kk' := kk [some (.lst true p), some (.int most), some (fsT fs), some (sT base), none, none, none, some (.lst false ((sayL fs).map yT)), some (.lst true (rs.map ruT)), some (.int (j : Int)), some (yT y), none, some (yT z), none] rfl
        simp only [yT] at kk'
        walk_at "pl_vs"
        · rename_i hw
          rw [if_pos (by simpa using hw)] at kk'
          exact kk'
        · rename_i hw
          rw [if_neg (by simpa using hw)] at kk'
          exact kk'
      have eo : ((sayL fs).map yT).filterMap (fun x => match x with | .tup [a, .int w, c] => if (!decide (w = y.2.1)) = true then some (.tup [a, .int w, c]) else none | _ => none) = ((sayL fs).filter fun z => !decide (z.2.1 = y.2.1)).map yT := by
        rw [List.filterMap_map]
        induction sayL fs with
        | nil => rfl
        | cons z l ih =>
          rw [List.filterMap_cons, List.filter_cons, ih]
          simp only [Function.comp, yT]
          cases hz : (!decide (z.2.1 = y.2.1)) <;> simp [hz, yT]
      rw [eo]
      have hoth : ∀ z ∈ (sayL fs).filter fun z => !decide (z.2.1 = y.2.1), SayOf fs z ∧ z.2.1 ≠ y.2.1 := fun z hz => by
        obtain ⟨z1, z2⟩ := List.mem_filter.mp hz
        exact ⟨mem_sayL.mp z1, by simpa using z2⟩
      have hopos : 0 < ((((sayL fs).filter fun z => !decide (z.2.1 = y.2.1)).map yT).length : Int) := by
        have : ∃ z, z ∈ (sayL fs).filter fun z => !decide (z.2.1 = y.2.1) := by
          refine ⟨ctr y, List.mem_filter.mpr ⟨mem_sayL.mpr sy.ctr, ?_⟩⟩
          have w := sy.okY.1
          unfold ctr
          simp only [Bool.not_eq_true', decide_eq_false_iff_not]
          rcases w with w | w <;> rw [w] <;> decide
        obtain ⟨z, hz⟩ := this
        have := List.length_pos_of_mem hz
        rw [List.length_map]
        omega
      generalize (sayL fs).filter (fun z => !decide (z.2.1 = y.2.1)) = oth at hoth hopos ⊢
      refine k_bind (Γ2 := [some (.lst true p), some (.int most), some (fsT fs), some (sT base), none, none, none, some (.lst false ((sayL fs).map yT)), some (.lst true (rs.map ruT)), some (.int (j : Int)), some (yT y), some (.lst true (oth.map yT)), none, none]) rfl ?_
      walk_at "pl_vs"
      intro r p r0 r1 hp
      walk_at "pl_vs"
      refine k_iL r0 r1 fun z hz => ?_
      obtain ⟨sz', zw⟩ := hoth z hz
      have iz : 0 ≤ z.1 ∧ z.1 < base.length := by
        have := sz'.okY.2
        rw [hb.len]
        exact this
      walk_at "pl_vs"
      intro how p how0 how1 hp
      walk_at "pl_vs"
      · refine k_iS (ib y hy).1 (ib y hy).2 ?_
        walk_at "pl_vs"
        refine c_holds (wy y hy) ?_
        walk_at "pl_vs"
        · refine k_iS (ib y hy).1 (ib y hy).2 ?_
          walk_at "pl_vs"
          refine c_holds (wy y hy) ?_
          walk_at "pl_vs"
          · refine c_contrary ?_
            walk_at "pl_vs"
            refine c_contrary ?_
            walk_at "pl_vs"
            refine mm_y ?_
            walk_at "pl_vs"
            refine mm_y ?_
            walk_at "pl_vs"
            rename_i hn1 hn2
            exact fin p _ _ hp sy.ctr sy.ctr (r1l _ _ (by rw [hin_ctr sy]; exact hn1)) (.inr rfl)
          · rename_i hn1 hn2
            exact absurd (hn1.symm.trans hn2) (by decide)
        · refine mm_y ?_
          walk_at "pl_vs"
          refine mm_y ?_
          walk_at "pl_vs"
          rename_i hn1
          exact fin p _ _ hp sy sy (r1l _ _ ((Bool.not_eq_false' _).mp hn1)) (.inr rfl)
      · refine k_iS (ib y hy).1 (ib y hy).2 ?_
        walk_at "pl_vs"
        refine c_holds (wy y hy) ?_
        walk_at "pl_vs"
        · refine k_iS iz.1 iz.2 ?_
          walk_at "pl_vs"
          refine c_holds sz'.okY.1 ?_
          walk_at "pl_vs"
          · refine c_contrary ?_
            walk_at "pl_vs"
            refine c_contrary ?_
            walk_at "pl_vs"
            refine mm_y ?_
            walk_at "pl_vs"
            refine mm_y ?_
            walk_at "pl_vs"
            rename_i hn1 hn2
            refine fin p _ _ hp sy.ctr sz'.ctr (r1l _ _ (by rw [hin_ctr sy]; exact hn1)) (.inl ?_)
            unfold ctr
            simp only
            omega
          · refine mm_y ?_
            walk_at "pl_vs"
            refine mm_y ?_
            walk_at "pl_vs"
            rename_i hn1 hn2
            exact fin p _ _ hp sy sz' (r1r _ _ ((Bool.not_eq_false' _).mp hn2)) (.inl fun h => zw h.symm)
        · refine mm_y ?_
          walk_at "pl_vs"
          refine mm_y ?_
          walk_at "pl_vs"
          rename_i hn1
          exact fin p _ _ hp sy sz' (r1l _ _ ((Bool.not_eq_false' _).mp hn1)) (.inl fun h => zw h.symm)
    · rintro Γ ⟨p, rs, hp, hl, hr, rfl⟩
      rw [List.length_map, List.length_range] at hl
      walk_at "pl_vs"
      refine sset_ru (by omega) fun rs' hm hl' nd => ?_
      walk_at "pl_vs"
      exact k_ioP rfl rfl (by simp) (q fs rs' base ok (most_len ok hcnt hpr) hb (fun r h => hr r ((hm r).mp h)) p hp)
end

/-! k84: the law. -/
def P_asks (ts : List T) (K : T → Prop) : Prop := ∃ xs n ranks, ts = [xsT xs, .int ranks] ∧ xs ≠ [] ∧ (∀ x ∈ xs, x.length = n) ∧ xs.length ≤ 200 ∧ n ≤ 12 ∧ 0 ≤ ranks ∧ ranks ≤ 100 ∧ K (.bl true)
theorem c_asks {xs : List Sheet} {n : Nat} {ranks : Int} {K : T → Prop} (h0 : xs ≠ []) (h : ∀ x ∈ xs, x.length = n) (l1 : xs.length ≤ 200) (l2 : n ≤ 12) (r0 : 0 ≤ ranks) (r1 : ranks ≤ 100) (k : K (.bl true)) : P_asks [xsT xs, .int ranks] K := ⟨xs, n, ranks, rfl, h0, h, l1, l2, r0, r1, k⟩
def P_scene (ts : List T) (K : T → Prop) : Prop := ∃ fs rs base b, ts = [.lst false [.tup [fsT fs, rsT rs], sT base], .bl b] ∧ OkFs fs ∧ (allS fs).length ≤ 128 ∧ Box fs base ∧ (∀ r ∈ rs, okRu fs base r) ∧ (b = true → ∀ r ∈ rs, risR r) ∧ K (.bl true)
theorem c_scene {fs : List Fld} {rs : List Rule} {base : Sheet} {b : Bool} {K : T → Prop} (ok : OkFs fs) (l : (allS fs).length ≤ 128) (hb : Box fs base) (hr : ∀ r ∈ rs, okRu fs base r) (hri : b = true → ∀ r ∈ rs, risR r) (k : K (.bl true)) : P_scene [.lst false [.tup [fsT fs, rsT rs], sT base], .bl b] K := ⟨fs, rs, base, b, rfl, ok, l, hb, hr, hri, k⟩
def P_wide (ts : List T) (K : T → Prop) : Prop := ts = [] ∧ K (.bl true)
def P_law (ts : List T) (K : T → Prop) : Prop := ∃ ns : List Int, ts = [.scr ns] ∧ K (.bl true)
theorem rep_ones (k : Nat) : (List.replicate k [T.int 1]).flatten = (List.replicate k (1 : Int)).map T.int := by
  induction k with
  | zero => rfl
  | succ k ih => rw [List.replicate_succ, List.flatten_cons, ih, List.replicate_succ]; rfl
theorem rank_ok {xs : List Sheet} {n : Nat} {m : Int} (l2 : n ≤ 12) (K : T → Prop) (k : K (.bl true)) : P_same [sT (rankS xs n m.toNat), sT (rankS xs n m.toNat)] K := c_sameR okS_sT (by rw [sz_sT, rank_len]; omega) k
theorem foldl_min : ∀ (ns : List Int) (n : Int), (ns.foldl min n ∈ n :: ns) ∧ ∀ x ∈ n :: ns, ns.foldl min n ≤ x
  | [], n => ⟨List.mem_singleton.mpr rfl, fun x hx => by rw [List.mem_singleton.mp hx]; exact Int.le_refl _⟩
  | a :: ns, n => by
    obtain ⟨h1, h2⟩ := foldl_min ns (min n a)
    rw [List.foldl_cons]
    refine ⟨?_, fun x hx => ?_⟩
    · rcases List.mem_cons.mp h1 with e | e
      · rw [e]
        by_cases h : n ≤ a
        · rw [Int.min_eq_left h]; exact List.mem_cons_self
        · rw [Int.min_eq_right (by omega)]; exact List.mem_cons_of_mem _ List.mem_cons_self
      · exact List.mem_cons_of_mem _ (List.mem_cons_of_mem _ e)
    · have h3 := h2 _ List.mem_cons_self
      rcases List.mem_cons.mp hx with e | e
      · rw [e]; have := Int.min_le_left n a; omega
      · rcases List.mem_cons.mp e with e | e
        · rw [e]; have := Int.min_le_right n a; omega
        · exact h2 x (List.mem_cons_of_mem _ e)
theorem sheets_rel {α : Type} {g : α → T} {P : Sheet → Prop} {l : List α} {ys : List T} (h : Rel2 (fun _ y => ∃ s, y = sT s ∧ P s) (l.map g) ys) : ∃ xs : List Sheet, ys = xs.map sT ∧ xs.length = l.length ∧ ∀ x ∈ xs, P x := by
  have key : ∀ ys : List T, (∀ y ∈ ys, ∃ s, y = sT s ∧ P s) → ∃ xs : List Sheet, ys = xs.map sT ∧ ∀ x ∈ xs, P x := by
    intro ys
    induction ys with
    | nil => intro _; exact ⟨[], rfl, by simp⟩
    | cons y ys ih =>
      intro h
      obtain ⟨s, rfl, hs⟩ := h y List.mem_cons_self
      obtain ⟨xs, rfl, hx⟩ := ih fun z hz => h z (List.mem_cons_of_mem _ hz)
      exact ⟨s :: xs, rfl, fun x hx' => by
        rcases List.mem_cons.mp hx' with e | e
        · rw [e]; exact hs
        · exact hx x e⟩
  obtain ⟨xs, e, hx⟩ := key ys fun y hy => by
    obtain ⟨i, hi⟩ := List.mem_iff_getElem?.mp hy
    obtain ⟨x, -, r⟩ := h.at_ hi
    exact r
  refine ⟨xs, e, ?_, hx⟩
  have := h.1
  rw [e, List.length_map, List.length_map] at this
  exact this
theorem k_iX {o : Bool} {l : List Sheet} {r : Int} {K : T → Prop} (h0 : 0 ≤ r) (h1 : r < ((l.map sT).length : Nat)) (k : ∀ y ∈ l, K (sT y)) : kIdx (.lst o (l.map sT)) (.int r) K := by
  rw [List.length_map] at h1
  obtain ⟨n, rfl⟩ : ∃ n : Nat, r = (n : Int) := ⟨r.toNat, by omega⟩
  have hn : n < l.length := by omega
  exact k_idx (v := sT l[n]) (L2.atI_nat (by simp [hn])) isF_sT (k _ (List.getElem_mem hn))
theorem k_iXt {l : List Sheet} {r : Int} {K : T → Prop} (h0 : 0 ≤ r) (h1 : r < ((l.map sT).length : Nat)) (k : ∀ y ∈ l, K (sT y)) : kIdx (xsT l) (.int r) K := by
  rw [List.length_map] at h1
  obtain ⟨n, rfl⟩ : ∃ n : Nat, r = (n : Int) := ⟨r.toNat, by omega⟩
  have hn : n < l.length := by omega
  exact k_idx (v := sT l[n]) (L2.atI_nat (by simp [hn])) isF_sT (k _ (List.getElem_mem hn))
section
variable {Φ : Nat → Spec}
theorem v_asks (h0' : Φ 0 = spF P_far) (h1' : Φ 1 = spF P_centre) (h2' : Φ 2 = spF P_rank) (h4' : Φ 4 = spF P_wm) (h6 : Φ 6 = spL Pool P_pick) (h20 : Φ 20 = spF P_same) (h22 : Φ 22 = spF P_far) (h23 : Φ 23 = spF P_rank) (h24 : Φ 24 = spF P_centre) (h25 : Φ 25 = spF P_lw) (h26 : Φ 26 = spL Pool P_weights) : VP Φ [true, false, false] P_asks il__law_asks 9 := by
  rintro ts Q - am ⟨p, rest, rfl, hp, xs, n, ranks, rfl, h0, h, l1, l2, k0, k1, q⟩
  show wpSs Φ il__law_asks _ [some (.lst true p), some (xsT xs), some (.int ranks), none, none, none, none, none, none]
  unfold il__law_asks
  have sl : sizeLine = 16777216 := rfl
  have hpos : 0 < xs.length := List.length_pos_iff.mpr h0
  have hlen : ((xs.map sT).length : Int) = xs.length := by rw [List.length_map]
  walk_at "pl_vs"
  refine k_lend0 h26 hp (by walk_at "pl_vA") (c_weights (by omega) (by omega) fun w lw hw hodd p hp => ?_)
  have lw' : w.length = xs.length := by omega
  have fw := isFs_ints (s := w)
  walk_at "pl_vs"
  refine c_centre h0 h l1 l2 ?_
  walk_at "pl_vs"
  refine c_centre h0 h l1 l2 ?_
  walk_at "pl_vs"
  refine c_sameR okS_sT (by rw [sz_sT, centre_len]; omega) ?_
  walk_at "pl_vs"
  refine c_wm h0 h l1 l2 lw' hw fun v hv => ?_
  walk_at "pl_vs"
  refine c_lw h0 h l1 l2 lw' hw fun v' hv' => ?_
  obtain rfl := hv.uniq hv'
  walk_at "pl_vs"
  refine c_sameR okS_sT (by rw [sz_sT, hv.1]; omega) ?_
  walk_at "pl_vs"
  refine ⟨rfl, by omega, by omega, by simp; omega, ?_⟩
  rw [hlen, Int.toNat_natCast, rep_ones]
  walk_at "pl_vs"
  intro r p r0 r1 hp
  obtain ⟨i, rfl⟩ : ∃ i : Nat, r = (i : Int) := ⟨r.toNat, by omega⟩
  refine k_setL (q := i) rfl rfl (ixN_cast (by simp; omega)) ?_
  simp only [List.set_cons_zero, List.set_cons_succ]
  generalize hhv : ((xs.length : Int) + ((xs.length : Int) + 1) % 2) = hv1
  rw [show ((List.replicate xs.length (1 : Int)).map T.int).set i (T.int hv1) = ((List.replicate xs.length (1 : Int)).set i hv1).map T.int by rw [List.map_set]]
  have lh : ((List.replicate xs.length (1 : Int)).set i hv1).length = xs.length := by simp
  have hh : ∀ x ∈ (List.replicate xs.length (1 : Int)).set i hv1, 1 ≤ x := fun x hx => by
    rcases List.mem_or_eq_of_mem_set hx with h | h
    · rw [List.eq_of_mem_replicate h]; decide
    · omega
  generalize (List.replicate xs.length (1 : Int)).set i hv1 = hw' at lh hh ⊢
  refine s_cons ?_
  refine s_frz rfl ?_
  simp only [List.set_cons_zero, List.set_cons_succ]
  rw [fz_ints]
  have fh := isFs_ints (s := hw')
  have rest : wpSs Φ (.cons (.forr (.nm 6) (.rng1 (.mm false (.cp 2) (.cp 3))) (.cons (.asg (.nm 7) (.op .mod (.bi .int (.var 6)) (.cp 3))) (.cons (.iff (.cmp .lt (.var 2) (.var 3)) (.cons (.asg (.nm 7) (.call 6 (.lend 0 (.cons (.cp 3) .nil)))) .nil) .nil) (.cons (.iff (.not (.val (.tmp (.call 20 (.cons (.call 2 (.cons (.cp 1) (.cons (.cp 7) .nil))) (.cons (.call 23 (.cons (.cp 1) (.cons (.cp 7) .nil))) .nil)))))) (.cons (.ret (.bl false)) .nil) .nil) (.cons (.kill [6, 7]) .nil))))) (.cons (.asg (.nm 8) (.idx (.var 1) (.call 6 (.lend 0 (.cons (.cp 3) .nil))))) (.cons (.ret (.call 20 (.cons (.call 0 (.cons (.cp 1) (.cons (.cp 8) .nil))) (.cons (.call 22 (.cons (.cp 1) (.cons (.cp 8) .nil))) .nil)))) .nil)))
      { nx := fun Γ => ioK [true, false, false] (Q .non) Γ, rt := fun t Γ => ioK [true, false, false] (Q t) Γ } [some (.lst true p), some (xsT xs), some (.int ranks), some (.int (xs.length : Int)), some (.tup (w.map .int)), some (.lst false (hw'.map .int)), none, none, none] := by
    walk_at "pl_vs"
    refine ⟨by split <;> (try split) <;> omega, by split <;> (try split) <;> omega, ?_⟩
    refine k_for (fun j Γ => ∃ p, Pool p ∧ Γ = [some (.lst true p), some (xsT xs), some (.int ranks), some (.int (xs.length : Int)), some (.tup (w.map .int)), some (.lst false (hw'.map .int)), none, none, none]) ⟨p, hp, rfl⟩ ?_ ?_
    · rintro j x Γ hx ⟨p, hp, rfl⟩ again ag
      obtain ⟨hj, rfl⟩ := rng0_get hx
      walk_at "pl_vs"
      · intro r p r0 r1 hp
        walk_at "pl_vs"
        refine c_rank h0 h l1 l2 r0 (by omega) ?_
        walk_at "pl_vs"
        refine c_rank h0 h l1 l2 r0 (by omega) ?_
        walk_at "pl_vs"
        refine rank_ok l2 _ ?_
        walk_at "pl_vs"
        exact ag _ ⟨p, hp, rfl⟩
      · have m0 := Int.emod_nonneg (j : Int) (show (xs.length : Int) ≠ 0 by omega)
        have m1 := Int.emod_lt_of_pos (j : Int) (show 0 < (xs.length : Int) by omega)
        refine c_rank h0 h l1 l2 m0 (by omega) ?_
        walk_at "pl_vs"
        refine c_rank h0 h l1 l2 m0 (by omega) ?_
        walk_at "pl_vs"
        refine rank_ok l2 _ ?_
        walk_at "pl_vs"
        exact ag _ ⟨p, hp, rfl⟩
    · rintro Γ ⟨p, hp, rfl⟩
      walk_at "pl_vs"
      intro r p r0 r1 hp
      walk_at "pl_vs"
      refine k_iXt r0 (by omega) fun o ho => ?_
      have lo := h o ho
      walk_at "pl_vs"
      refine c_far (fun x hx => by rw [h x hx, lo]) l1 (by omega) ?_
      walk_at "pl_vs"
      refine c_far (fun x hx => by rw [h x hx, lo]) l1 (by omega) ?_
      walk_at "pl_vs"
      refine c_sameR rfl (by simp [sz]) ?_
      exact k_ioP rfl rfl (by simp) (q p hp)
  refine s_cons ?_
  refine s_join (fun Γ => Γ = [some (.lst true p), some (xsT xs), some (.int ranks), some (.int (xs.length : Int)), some (.tup (w.map .int)), some (.lst false (hw'.map .int)), none, none, none]) (fun nx' jn => ?_) (by rintro Γ rfl; exact rest)
  clear rest
  walk_at "pl_vs"
  refine b_sum (intsT_ints hw') ?_
  walk_at "pl_vs"
  · refine c_wm h0 h l1 l2 lh hh fun v hv => ?_
    walk_at "pl_vs"
    refine c_lwL h0 h l1 l2 lh hh fun v' hv' => ?_
    obtain rfl := hv.uniq hv'
    walk_at "pl_vs"
    refine c_sameR okS_sT (by rw [sz_sT, hv.1]; omega) ?_
    walk_at "pl_vs"
    exact jn _ rfl
  · exact jn _ rfl
end

/-! k84: the law. -/
theorem Box.of_mem {fs : List Fld} {s : Sheet} (h : s ∈ allS fs) : Box fs s := (mem_allS fs s).mp h
section
variable {Φ : Nat → Spec}
theorem v_scene (h0' : Φ 0 = spF P_far) (h1' : Φ 1 = spF P_centre) (h2' : Φ 2 = spF P_rank) (h4' : Φ 4 = spF P_wm) (h6 : Φ 6 = spL Pool P_pick) (h13 : Φ 13 = spF P_keeps) (h14 : Φ 14 = spF P_all) (h20 : Φ 20 = spF P_same) (h22 : Φ 22 = spF P_far) (h26 : Φ 26 = spL Pool P_weights) (h27 : Φ 27 = spL Pool P_asks) (h28 : Φ 28 = spF P_among) : VP Φ [true, false, false] P_scene il__law_scene 11 := by
  rintro ts Q - am ⟨p, rest, rfl, hp, fs, rs, base, b, rfl, ok, hal, hb, hr, hri, q⟩
  show wpSs Φ il__law_scene _ [some (.lst true p), some (.lst false [.tup [fsT fs, rsT rs], sT base]), some (.bl b), none, none, none, none, none, none, none, none]
  unfold il__law_scene
  have sl : sizeLine = 16777216 := rfl
  have okr : ∀ s : Sheet, s.length = fs.length → ∀ r ∈ rs, okR s.length r := fun s hs r hr' => by
    rw [hs]
    exact ⟨(hr r hr').1.okY, (hr r hr').2.1.okY⟩
  walk_at "pl_vs"
  refine c_all ok hal ?_
  refine k_bind rfl ?_
  refine s_cons ?_
  refine s_frz rfl ?_
  simp only [List.set_cons_zero, List.set_cons_succ]
  rw [show fz (.lst true ((allS fs).map sT)) = .lst false ((allS fs).map sT) by simp only [fz, fzs_of_isF _ isFs_sT]]
  walk_at "pl_vs"
  refine k_lc (fun x => match x with | .tup c => if (rs.all fun r => ruleB r (c.map fun t => match t with | .int i => i | _ => 0)) = true then some x else none | _ => none) (fun x hx Kk kk => ?_) ?_
  · obtain ⟨s, hs, rfl⟩ := List.mem_map.mp hx
    have hsl := (Box.of_mem hs).len
    refine k_bind (Γ2 := [some (.lst true p), some (.lst false [.tup [fsT fs, rsT rs], sT base]), some (.bl b), some (.tup [fsT fs, rsT rs]), some (.lst false ((allS fs).map sT)), none, some (sT s), none, none, none, none]) rfl ?_
    have kk' := kk [some (.lst true p), some (.lst false [.tup [fsT fs, rsT rs], sT base]), some (.bl b), some (.tup [fsT fs, rsT rs]), some (.lst false ((allS fs).map sT)), none, some (sT s), none, none, none, none] rfl
    have e : (s.map T.int).map (fun t => match t with | .int i => i | _ => 0) = s := by rw [List.map_map]; exact List.map_id _
    simp only [sT, e] at kk'
    walk_at "pl_vs"
    refine c_keeps (okr s hsl) ?_
    walk_at "pl_vs"
    · rename_i ht
      rw [if_pos ht] at kk'
      exact kk'
    · rename_i ht
      rw [if_neg (by rw [ht]; decide)] at kk'
      exact kk'
  have eg : ((allS fs).map sT).filterMap (fun x => match x with | .tup c => if (rs.all fun r => ruleB r (c.map fun t => match t with | .int i => i | _ => 0)) = true then some x else none | _ => none) = ((allS fs).filter fun s => rs.all fun r => ruleB r s).map sT := by
    rw [List.filterMap_map]
    induction allS fs with
    | nil => rfl
    | cons s l ih =>
      rw [List.filterMap_cons, List.filter_cons, ih]
      have e : (s.map T.int).map (fun t => match t with | .int i => i | _ => 0) = s := by rw [List.map_map]; exact List.map_id _
      simp only [Function.comp, sT, e]
      cases hz : (rs.all fun r => ruleB r s) <;> simp [hz, sT]
  rw [eg]
  have hgood : ∀ s, s ∈ (allS fs).filter (fun s => rs.all fun r => ruleB r s) ↔ Box fs s ∧ ∀ r ∈ rs, ruleB r s = true := fun s => by
    rw [List.mem_filter, mem_allS, List.all_eq_true]
  have lgood : ((allS fs).filter (fun s => rs.all fun r => ruleB r s)).length ≤ 128 := Nat.le_trans (List.length_filter_le _ _) hal
  have hbase : base ∈ (allS fs).filter (fun s => rs.all fun r => ruleB r s) := (hgood base).mpr ⟨hb, fun r h => (hr r h).2.2⟩
  generalize (allS fs).filter (fun s => rs.all fun r => ruleB r s) = gs at hgood hbase lgood ⊢
  have gpos : 0 < ((gs.map sT).length : Int) := by have := List.length_pos_of_mem hbase; rw [List.length_map]; omega
  have gl12 : ∀ x ∈ gs, x.length ≤ 12 := fun x hx => by rw [((hgood x).mp hx).1.len]; exact ok.1
  refine k_bind (Γ2 := [some (.lst true p), some (.lst false [.tup [fsT fs, rsT rs], sT base]), some (.bl b), some (.tup [fsT fs, rsT rs]), some (.lst false ((allS fs).map sT)), some (.lst true (gs.map sT)), none, none, none, none, none]) rfl ?_
  refine s_cons ?_
  refine s_frz rfl ?_
  simp only [List.set_cons_zero, List.set_cons_succ]
  rw [show fz (.lst true (gs.map sT)) = .lst false (gs.map sT) by simp only [fz, fzs_of_isF _ isFs_sT]]
  walk_at "pl_vs"
  intro r p r0 r1 hp
  walk_at "pl_vs"
  refine ⟨by omega, by omega, ?_⟩
  refine k_cap (show _ ≤ sizeLine by rw [List.length_map, List.length_range]; omega) ?_
  refine k_lcP 0 (fun x y => ∃ s, y = sT s ∧ s ∈ gs) hp rfl (by decide) (fun x hx p hp Kk kk => ?_) ?_
  · obtain ⟨j, hj, rfl⟩ := List.mem_map.mp hx
    refine k_bind (Γ2 := [some (.lst true p), some (.lst false [.tup [fsT fs, rsT rs], sT base]), some (.bl b), some (.tup [fsT fs, rsT rs]), some (.lst false ((allS fs).map sT)), some (.lst false (gs.map sT)), none, none, some (.int (j : Int)), none, none]) rfl ?_
    walk_at "pl_vs"
    intro r p r0 r1 hp
    walk_at "pl_vs"
    refine k_iX r0 r1 fun s hs => ?_
    walk_at "pl_vs"
    exact kk _ _ p ⟨s, rfl, hs⟩ hp rfl
  intro ys p hys hp
  obtain ⟨xs, rfl, lx, hx⟩ := sheets_rel (g := fun k : Nat => T.int (k : Int)) hys
  rw [List.length_range] at lx
  have h0 : xs ≠ [] := fun e => by rw [e] at lx; simp at lx; omega
  have h : ∀ x ∈ xs, x.length = fs.length := fun x hx' => ((hgood x).mp (hx x hx')).1.len
  have l1 : xs.length ≤ 200 := by omega
  have l2 := ok.1
  have hpos : 0 < xs.length := List.length_pos_iff.mpr h0
  have hlen : ((xs.map sT).length : Int) = xs.length := by rw [List.length_map]
  have hkeep : ∀ x ∈ xs, ∀ r ∈ rs, ruleB r x = true := fun x hx' => ((hgood x).mp (hx x hx')).2
  have hbox : ∀ x ∈ xs, Box fs x := fun x hx' => ((hgood x).mp (hx x hx')).1
  have okr' : ∀ r ∈ rs, okR fs.length r := fun r hr' => ⟨(hr r hr').1.okY, (hr r hr').2.1.okY⟩
  have hcen : centreS xs fs.length ∈ gs := (hgood _).mpr ⟨box_of centre_len hbox fun f hf => centre_mem h0 hf, fun r hr' => (centre_maj h0).rule (okr' r hr') fun x hx' => hkeep x (List.mem_of_mem_take hx') r hr'⟩
  refine b_tupL isFs_sT ?_
  refine k_bind (Γ2 := [some (.lst true p), some (.lst false [.tup [fsT fs, rsT rs], sT base]), some (.bl b), some (.tup [fsT fs, rsT rs]), some (.lst false ((allS fs).map sT)), some (.lst false (gs.map sT)), none, some (xsT xs), none, none, none]) rfl ?_
  walk_at "pl_vs"
  refine k_lend0 h27 hp (by walk_at "pl_vA") (c_asks h0 h l1 l2 (by decide) (by decide) fun p hp => ?_)
  walk_at "pl_vs"
  refine c_centre h0 h l1 l2 ?_
  walk_at "pl_vs"
  refine c_among gl12 hcen ?_
  walk_at "pl_vs"
  refine k_lend0 h26 hp (by walk_at "pl_vA") (c_weights (by omega) (by omega) fun w lw hw hodd p hp => ?_)
  have lw' : w.length = xs.length := by omega
  have fw := isFs_ints (s := w)
  walk_at "pl_vs"
  refine c_wm h0 h l1 l2 lw' hw fun v hv => ?_
  have hz : ∀ z ∈ xs.zip w, 1 ≤ z.2 := fun z hz => hw _ (List.of_mem_zip hz).2
  have hvg : v ∈ gs := (hgood _).mpr ⟨box_of hv.1 hbox fun f hf => wm_mem lw' hv hf, fun r hr' => (wm_maj lw' hw hodd hv).rule hz (okr' r hr') fun z hz' => hkeep z.1 (List.of_mem_zip hz').1 r hr'⟩
  walk_at "pl_vs"
  refine c_among gl12 hvg ?_
  refine k_tru (c := true) rfl ?_
  refine k_ifnT ?_
  refine s_nil ?_
  have tail : ∀ p, Pool p → wpSs Φ (.cons (.asg (.nm 10) (.mml false (.tmp (.lc [6] (.seq (.var 4)) (.nm 6) .no (.call 22 (.cons (.cp 7) (.cons (.cp 6) .nil))))))) (.cons (.iff (.cmp .ne (.tmp (.call 22 (.cons (.cp 7) (.cons (.cp 9) .nil)))) (.var 10)) (.cons (.ret (.bl false)) .nil) .nil) (.cons (.ret (.call 20 (.cons (.call 0 (.cons (.cp 7) (.cons (.cp 9) .nil))) (.cons (.cp 10) .nil)))) .nil)))
      { nx := fun Γ => ioK [true, false, false] (Q .non) Γ, rt := fun t Γ => ioK [true, false, false] (Q t) Γ } [some (.lst true p), some (.lst false [.tup [fsT fs, rsT rs], sT base]), some (.bl b), some (.tup [fsT fs, rsT rs]), some (.lst false ((allS fs).map sT)), some (.lst false (gs.map sT)), none, some (xsT xs), none, some (sT (centreS xs fs.length)), none] := by
    intro p hp
    have cl := centre_len (xs := xs) (n := fs.length)
    walk_at "pl_vs"
    refine k_lcM (fun x => match x with | .tup c => .int (far xs (c.map fun t => match t with | .int i => i | _ => 0)) | _ => .non) (fun x hx Kk kk => ?_) ?_
    · obtain ⟨s, hs, rfl⟩ := List.mem_map.mp hx
      have hsl := (Box.of_mem hs).len
      refine k_bind (Γ2 := [some (.lst true p), some (.lst false [.tup [fsT fs, rsT rs], sT base]), some (.bl b), some (.tup [fsT fs, rsT rs]), some (.lst false ((allS fs).map sT)), some (.lst false (gs.map sT)), some (sT s), some (xsT xs), none, some (sT (centreS xs fs.length)), none]) rfl ?_
      have kk' := kk [some (.lst true p), some (.lst false [.tup [fsT fs, rsT rs], sT base]), some (.bl b), some (.tup [fsT fs, rsT rs]), some (.lst false ((allS fs).map sT)), some (.lst false (gs.map sT)), some (sT s), some (xsT xs), none, some (sT (centreS xs fs.length)), none] rfl
      have e : (s.map T.int).map (fun t => match t with | .int i => i | _ => 0) = s := by rw [List.map_map]; exact List.map_id _
      simp only [sT, e] at kk'
      walk_at "pl_vs"
      refine c_far (fun x hx' => by rw [h x hx', hsl]) l1 (by omega) ?_
      walk_at "pl_vs"
      exact kk'
    have el : ((allS fs).map sT).map (fun x => match x with | .tup c => T.int (far xs (c.map fun t => match t with | .int i => i | _ => 0)) | _ => .non) = ((allS fs).map (far xs)).map T.int := by
      rw [List.map_map, List.map_map]
      refine List.map_congr_left fun s _ => ?_
      have e : (s.map T.int).map (fun t => match t with | .int i => i | _ => 0) = s := by rw [List.map_map]; exact List.map_id _
      simp only [Function.comp, sT, e]
    rw [el]
    have hmin : ∀ d ∈ (allS fs).map (far xs), far xs (centreS xs fs.length) ≤ d := fun d hd => by
      obtain ⟨s, hs, rfl⟩ := List.mem_map.mp hd
      exact centre_least h0 h (Box.of_mem hs).len
    have hmem : far xs (centreS xs fs.length) ∈ (allS fs).map (far xs) := List.mem_map_of_mem ((mem_allS _ _).mpr ((hgood _).mp hcen).1)
    generalize (allS fs).map (far xs) = ds at hmin hmem ⊢
    obtain ⟨d, dr, rfl⟩ : ∃ d dr, ds = d :: dr := by
      cases ds with
      | nil => cases hmem
      | cons d dr => exact ⟨d, dr, rfl⟩
    refine m_mml (intsT_ints (d :: dr)) ?_
    have emin : mmI false d dr = far xs (centreS xs fs.length) := by
      unfold mmI
      rw [if_neg (by decide)]
      obtain ⟨f1, f2⟩ := foldl_min dr d
      have := hmin _ f1
      have := f2 _ hmem
      omega
    rw [emin]
    refine k_bind (Γ2 := [some (.lst true p), some (.lst false [.tup [fsT fs, rsT rs], sT base]), some (.bl b), some (.tup [fsT fs, rsT rs]), some (.lst false ((allS fs).map sT)), some (.lst false (gs.map sT)), none, some (xsT xs), none, some (sT (centreS xs fs.length)), some (.int (far xs (centreS xs fs.length)))]) rfl ?_
    walk_at "pl_vs"
    refine c_far (fun x hx' => by rw [h x hx', cl]) l1 (by omega) ?_
    walk_at "pl_vs"
    · rename_i hne
      exact absurd rfl hne
    · refine c_far (fun x hx' => by rw [h x hx', cl]) l1 (by omega) ?_
      walk_at "pl_vs"
      refine c_sameR rfl (by simp [sz]) ?_
      exact k_ioP rfl rfl (by simp) (q p hp)
  refine s_cons ?_
  refine s_join (fun Γ => ∃ p, Pool p ∧ Γ = [some (.lst true p), some (.lst false [.tup [fsT fs, rsT rs], sT base]), some (.bl b), some (.tup [fsT fs, rsT rs]), some (.lst false ((allS fs).map sT)), some (.lst false (gs.map sT)), none, some (xsT xs), none, some (sT (centreS xs fs.length)), none]) (fun nx' jn => ?_) (by rintro Γ ⟨p, hp, rfl⟩; exact tail p hp)
  clear tail
  walk_at "pl_vs"
  · rename_i hbt
    intro r p r0 r1 hp
    walk_at "pl_vs"
    refine c_rank h0 h l1 l2 r0 (by omega) ?_
    have hm : r.toNat < xs.length := by omega
    have hrk : rankS xs fs.length r.toNat ∈ gs := (hgood _).mpr ⟨box_of rank_len hbox fun f hf => rank_mem hm hf, fun r' hr' => (rank_rnk hm).rule hm (okr' r' hr') (hri hbt r' hr') fun x hx' => hkeep x hx' r' hr'⟩
    walk_at "pl_vs"
    refine c_among gl12 hrk ?_
    walk_at "pl_vs"
    exact jn _ ⟨p, hp, rfl⟩
  · exact jn _ ⟨p, hp, rfl⟩
theorem v_wide (h6 : Φ 6 = spL Pool P_pick) (h7 : Φ 7 = spL Pool P_fields) (h27 : Φ 27 = spL Pool P_asks) : VP Φ [true] P_wide il__law_wide 7 := by
  rintro ts Q - am ⟨p, rest, rfl, hp, rfl, q⟩
  show wpSs Φ il__law_wide _ [some (.lst true p), none, none, none, none, none, none]
  unfold il__law_wide
  have sl : sizeLine = 16777216 := rfl
  walk_at "pl_vs"
  refine ⟨by decide, by decide, ?_⟩
  refine k_cap (show _ ≤ sizeLine by rw [List.length_map, List.length_range]; decide) ?_
  refine k_lcP 0 (fun x y => ∃ (k : Nat) (v : Int), k ∈ List.range (12 : Int).toNat ∧ x = .int (k : Int) ∧ y = .int v ∧ (1 ≤ v ∧ v ≤ 20)) hp rfl (by decide) (fun x hx p hp Kk kk => ?_) ?_
  · obtain ⟨k, hk, rfl⟩ := List.mem_map.mp hx
    refine k_bind (Γ2 := [some (.lst true p), none, some (.int (k : Int)), none, none, none, none]) rfl ?_
    walk_at "pl_vs"
    intro r p r0 r1 hp
    walk_at "pl_vs"
    exact kk _ _ p ⟨k, _, hk, rfl, rfl, by omega, by omega⟩ hp rfl
  intro ys p hys hp
  obtain ⟨cs, rfl, lcs, hcs⟩ := Rel2.ints (g := fun k : Nat => T.int (k : Int)) (R := fun _ v => 1 ≤ v ∧ v ≤ 20) hys fun _ _ _ v h => h
  rw [List.length_range] at lcs
  have lcs : cs.length = 12 := lcs
  have hcs1 : ∀ x ∈ cs, 1 ≤ x ∧ x ≤ 20 := fun x hx => by
    obtain ⟨i, hi⟩ := List.mem_iff_getElem?.mp hx
    have := (List.getElem?_eq_some_iff.mp hi).1
    exact hcs i i x (by rw [List.getElem?_range (by show i < 12; omega)]) hi
  rw [fz_ints]
  show wpEs Φ _ [some (.lst true p), none, none, none, none, none, none] _
  walk_at "pl_vs"
  refine k_lend0 h7 hp (by walk_at "pl_vA") (c_fields (by omega) hcs1 fun fs ok hcnt p hp => ?_)
  walk_at "pl_vs"
  intro r p r0 r1 hp
  walk_at "pl_vs"
  refine ⟨by omega, by omega, ?_⟩
  refine k_for (fun j Γ => ∃ (p : List T) (xs : List Sheet), Pool p ∧ xs.length = j ∧ (∀ x ∈ xs, x.length = fs.length) ∧ Γ = [some (.lst true p), some (fsT fs), none, some (.lst true (xs.map sT)), none, none, none]) ⟨p, [], hp, rfl, by simp, rfl⟩ ?_ ?_
  · rintro j x Γ hx ⟨p, xs, hp, hl, hxl, rfl⟩ again ag
    obtain ⟨hj, rfl⟩ := rng0_get hx
    have hl2 : (xs.map sT).length < sizeLine := by rw [List.length_map]; omega
    walk_at "pl_vs"
    refine k_lcP 0 (fun x y => ∃ (f : Fld) (v : Int), f ∈ fs ∧ x = fldT f ∧ y = .int v ∧ (f.2.1 ≤ v ∧ v ≤ f.2.2)) hp rfl (by decide) (fun x hx p hp Kk kk => ?_) ?_
    · obtain ⟨f, hf, rfl⟩ := List.mem_map.mp hx
      obtain ⟨o1, o2, o3, o4⟩ := ok.2 f hf
      refine k_bind (Γ2 := [some (.lst true p), some (fsT fs), some (.int (j : Int)), some (.lst true (xs.map sT)), some (.str f.1), some (.int f.2.1), some (.int f.2.2)]) rfl ?_
      walk_at "pl_vs"
      intro r p r0 r1 hp
      walk_at "pl_vs"
      exact kk _ _ p ⟨f, _, hf, rfl, rfl, by omega, by omega⟩ hp rfl
    · intro ys p hys hp
      obtain ⟨base, rfl, hb⟩ := box_rel hys
      refine b_tupL isFs_ints ?_
      refine k_app (xs := xs.map sT) rfl hl2 ?_
      show wpSs Φ _ _ [some (.lst true p), some (fsT fs), some (.int (j : Int)), some (.lst true (xs.map sT ++ [sT base])), none, none, none]
      walk_at "pl_vs"
      exact ag _ ⟨p, xs ++ [base], hp, by simp [hl], fun x hx => by
        rcases List.mem_append.mp hx with m | m
        · exact hxl x m
        · rw [List.mem_singleton.mp m]; exact hb.len, by rw [List.map_append]; rfl⟩
  · rintro Γ ⟨p, xs, hp, hl, hxl, rfl⟩
    rw [List.length_map, List.length_range] at hl
    have h0 : xs ≠ [] := fun e => by rw [e] at hl; simp at hl; omega
    walk_at "pl_vs"
    refine k_lend0 h27 hp (by walk_at "pl_vA") (c_asks h0 hxl (by omega) ok.1 (by decide) (by decide) fun p hp => ?_)
    exact k_ioP rfl rfl (by simp) (q p hp)
theorem fz_form {fs : List Fld} {rs : List Rule} {base : Sheet} : fz (.lst true [.tup [fsT fs, rsT rs], sT base]) = .lst false [.tup [fsT fs, rsT rs], sT base] := by
  have : isFs [.tup [fsT fs, rsT rs], sT base] = true := isFs_cons (isF_tup (isFs_cons isF_fsT (isFs_cons isF_rsT rfl))) (isFs_cons isF_sT rfl)
  simp only [fz, fzs_of_isF _ this]
theorem v_law (h5 : Φ 5 = spF P_pool) (h6 : Φ 6 = spL Pool P_pick) (h7 : Φ 7 = spL Pool P_fields) (h18 : Φ 18 = spL Pool P_form) (h21 : Φ 21 = spL Pool P_rising) (h27 : Φ 27 = spL Pool P_asks) (h29 : Φ 29 = spL Pool P_scene) (h30 : Φ 30 = spL Pool P_wide) : VC Φ [false] P_law il_law 8 := by
  rintro ts Q - - ⟨ns, rfl, q⟩
  show wpSs Φ il_law _ [some (.scr ns), none, none, none, none, none, none, none]
  unfold il_law
  have sl : sizeLine = 16777216 := rfl
  have fns : isF (.scr ns) = true := rfl
  walk_at "pl_vs"
  refine ⟨ns, rfl, fun p hp => ?_⟩
  walk_at "pl_vs"
  refine ⟨by decide, by decide, ?_⟩
  refine k_for (fun j Γ => ∃ p, Pool p ∧ Γ = [some (.scr ns), some (.lst true p), none, none, none, none, none, none]) ⟨p, hp, rfl⟩ ?_ ?_
  · rintro j x Γ hx ⟨p, hp, rfl⟩ again ag
    obtain ⟨hj, rfl⟩ := rng0_get hx
    walk_at "pl_vs"
    refine k_lend1 h18 hp (by walk_at "pl_vA") (c_form (by decide) (by decide) (by decide) (by decide) fun fs rs base ok hal hb hr p hp => ?_)
    rw [fz_form]
    walk_at "pl_vs"
    refine k_lend1 h29 hp (by walk_at "pl_vA") (c_scene ok (by omega) hb hr (fun e => by cases e) fun p hp => ?_)
    walk_at "pl_vs"
    refine k_lend1 h21 hp (by walk_at "pl_vA") (c_rising (by decide) (by decide) fun fs rs base ok hal hb hr p hp => ?_)
    rw [fz_form]
    walk_at "pl_vs"
    refine k_lend1 h29 hp (by walk_at "pl_vA") (c_scene ok (by omega) hb (fun r h => (hr r h).1) (fun _ r h => (hr r h).2) fun p hp => ?_)
    walk_at "pl_vs"
    exact ag _ ⟨p, hp, rfl⟩
  · rintro Γ ⟨p, hp, rfl⟩
    walk_at "pl_vs"
    intro r p r0 r1 hp
    walk_at "pl_vs"
    refine ⟨by omega, by omega, ?_⟩
    refine k_cap (show _ ≤ sizeLine by rw [List.length_map, List.length_range]; omega) ?_
    refine k_lcP 1 (fun x y => ∃ (k : Nat) (v : Int), k ∈ List.range (1 + r).toNat ∧ x = .int (k : Int) ∧ y = .int v ∧ (1 ≤ v ∧ v ≤ 20)) hp rfl (by decide) (fun x hx p hp Kk kk => ?_) ?_
    · obtain ⟨k, hk, rfl⟩ := List.mem_map.mp hx
      refine k_bind (Γ2 := [some (.scr ns), some (.lst true p), some (.int (k : Int)), none, none, none, none, none]) rfl ?_
      walk_at "pl_vs"
      intro r p r0 r1 hp
      walk_at "pl_vs"
      exact kk _ _ p ⟨k, _, hk, rfl, rfl, by omega, by omega⟩ hp rfl
    intro ys p hys hp
    obtain ⟨cs, rfl, lcs, hcs⟩ := Rel2.ints (g := fun k : Nat => T.int (k : Int)) (R := fun _ v => 1 ≤ v ∧ v ≤ 20) hys fun _ _ _ v h => h
    rw [List.length_range] at lcs
    have hcs1 : ∀ x ∈ cs, 1 ≤ x ∧ x ≤ 20 := fun x hx => by
      obtain ⟨i, hi⟩ := List.mem_iff_getElem?.mp hx
      have := (List.getElem?_eq_some_iff.mp hi).1
      exact hcs i i x (by rw [List.getElem?_range (by omega)]) hi
    rw [fz_ints]
    show wpEs Φ _ [some (.scr ns), some (.lst true p), none, none, none, none, none, none] _
    walk_at "pl_vs"
    refine k_lend1 h7 hp (by walk_at "pl_vA") (c_fields (by omega) hcs1 fun fs ok hcnt p hp => ?_)
    walk_at "pl_vs"
    intro r p r0 r1 hp
    walk_at "pl_vs"
    refine ⟨by omega, by omega, ?_⟩
    refine k_for (fun j Γ => ∃ (p : List T) (xs : List Sheet), Pool p ∧ xs.length = j ∧ (∀ x ∈ xs, x.length = fs.length) ∧ Γ = [some (.scr ns), some (.lst true p), none, some (fsT fs), some (.lst true (xs.map sT)), none, none, none]) ⟨p, [], hp, rfl, by simp, rfl⟩ ?_ ?_
    · rintro j x Γ hx ⟨p, xs, hp, hl, hxl, rfl⟩ again ag
      obtain ⟨hj, rfl⟩ := rng0_get hx
      have hl2 : (xs.map sT).length < sizeLine := by rw [List.length_map]; omega
      walk_at "pl_vs"
      refine k_lcP 1 (fun x y => ∃ (f : Fld) (v : Int), f ∈ fs ∧ x = fldT f ∧ y = .int v ∧ (f.2.1 ≤ v ∧ v ≤ f.2.2)) hp rfl (by decide) (fun x hx p hp Kk kk => ?_) ?_
      · obtain ⟨f, hf, rfl⟩ := List.mem_map.mp hx
        obtain ⟨o1, o2, o3, o4⟩ := ok.2 f hf
        refine k_bind (Γ2 := [some (.scr ns), some (.lst true p), some (.int (j : Int)), some (fsT fs), some (.lst true (xs.map sT)), some (.str f.1), some (.int f.2.1), some (.int f.2.2)]) rfl ?_
        walk_at "pl_vs"
        intro r p r0 r1 hp
        walk_at "pl_vs"
        exact kk _ _ p ⟨f, _, hf, rfl, rfl, by omega, by omega⟩ hp rfl
      · intro ys p hys hp
        obtain ⟨base, rfl, hb⟩ := box_rel hys
        refine b_tupL isFs_ints ?_
        refine k_app (xs := xs.map sT) rfl hl2 ?_
        show wpSs Φ _ _ [some (.scr ns), some (.lst true p), some (.int (j : Int)), some (fsT fs), some (.lst true (xs.map sT ++ [sT base])), none, none, none]
        walk_at "pl_vs"
        exact ag _ ⟨p, xs ++ [base], hp, by simp [hl], fun x hx => by
          rcases List.mem_append.mp hx with m | m
          · exact hxl x m
          · rw [List.mem_singleton.mp m]; exact hb.len, by rw [List.map_append]; rfl⟩
    · rintro Γ ⟨p, xs, hp, hl, hxl, rfl⟩
      rw [List.length_map, List.length_range] at hl
      have h0 : xs ≠ [] := fun e => by rw [e] at hl; simp at hl; omega
      walk_at "pl_vs"
      refine k_lend1 h27 hp (by walk_at "pl_vA") (c_asks h0 hxl (by omega) ok.1 (by decide) (by decide) fun p hp => ?_)
      walk_at "pl_vs"
      intro r p r0 r1 hp
      walk_at "pl_vs"
      · exact q
      · refine k_lend1 h30 hp (by walk_at "pl_vA") ⟨rfl, fun p hp => ?_⟩
        walk_at "pl_vs"
        exact q
/-- a def that is never called -/
def P_none (_ : List T) (_ : T → Prop) : Prop := False
theorem v_none {m : List Bool} {il : Ss} {n : Nat} : VC Φ m P_none il n := fun _ _ _ _ h => h.elim
theorem v_noneL {m : List Bool} {il : Ss} {n : Nat} : VP Φ m P_none il n := fun _ _ _ _ ⟨_, _, _, _, h⟩ => h.elim
end

end K84
section
set_option maxHeartbeats 0
namespace K84
open PySem PySem.Spec L2 PL
open PyProof.Rows hiding St
def Phi (i : Nat) : PL.Spec := match i with
  | 0 => spF P_far
  | 1 => spF P_centre
  | 2 => spF P_rank
  | 3 => spF P_wa
  | 4 => spF P_wm
  | 5 => spF P_pool
  | 6 => spL Pool P_pick
  | 7 => spL Pool P_fields
  | 8 => spF P_sayings
  | 9 => spF P_holds
  | 10 => spF P_contrary
  | 11 => spF P_none
  | 12 => spF P_none
  | 13 => spF P_keeps
  | 14 => spF P_all
  | 15 => spF P_none
  | 16 => spL Pool P_rules
  | 17 => spL Pool P_counts
  | 18 => spL Pool P_form
  | 19 => spL Pool P_none
  | 20 => spF P_same
  | 21 => spL Pool P_rising
  | 22 => spF P_far
  | 23 => spF P_rank
  | 24 => spF P_centre
  | 25 => spF P_lw
  | 26 => spL Pool P_weights
  | 27 => spL Pool P_asks
  | 28 => spF P_among
  | 29 => spL Pool P_scene
  | 30 => spL Pool P_wide
  | 31 => spF P_law
  | _ => fun _ _ => False
section
variable {P : Program} {w : World} {K : PySem.W.Frag} {mg : PySem.Str → Option Value} {base : Heap}
theorem in_far_from (N : ∀ x ∈ bltN, mg x = none) {f : Addr} {fd : FuncData} (F : FunD K "far_from" "far_from" (defArgs (top 1)) (defBody (top 1)) (defScope (top 1)) [] [] f fd) (g : mg "far_from" = some (.ref f)) (a : AllF P w K mg base fs Phi 0) : AllF P w K mg base fs Phi 1 :=
  a.succ (x := "far_from") (m := ([false, false], ["sheets", "sheet"])) rfl (def_in (ns := ["sheets", "sheet"]) a N F g sc_far_from rfl ck_far_from (v_far_from (Φ := Phi) ) (fun _ _ _ _ _ _ us hl => match us, hl with | [_, _], _ => rfl) (hk := .inr ⟨rfl, fun _ _ _ _ _ _ us hl => match us, hl with | [_, _], _ => rfl⟩))
theorem in_centre_of (N : ∀ x ∈ bltN, mg x = none) {f : Addr} {fd : FuncData} (F : FunD K "centre_of" "centre_of" (defArgs (top 2)) (defBody (top 2)) (defScope (top 2)) [] [] f fd) (g : mg "centre_of" = some (.ref f)) (a : AllF P w K mg base fs Phi 1) : AllF P w K mg base fs Phi 2 :=
  a.succ (x := "centre_of") (m := ([false], ["sheets"])) rfl (def_in (ns := ["sheets"]) a N F g sc_centre_of rfl ck_centre_of (v_centre_of (Φ := Phi) ) (fun _ _ _ _ _ _ us hl => match us, hl with | [_], _ => rfl) (hk := .inr ⟨rfl, fun _ _ _ _ _ _ us hl => match us, hl with | [_], _ => rfl⟩))
theorem in_rank_sheet (N : ∀ x ∈ bltN, mg x = none) {f : Addr} {fd : FuncData} (F : FunD K "rank_sheet" "rank_sheet" (defArgs (top 4)) (defBody (top 4)) (defScope (top 4)) [] [] f fd) (g : mg "rank_sheet" = some (.ref f)) (a : AllF P w K mg base fs Phi 2) : AllF P w K mg base fs Phi 3 :=
  a.succ (x := "rank_sheet") (m := ([false, false], ["sheets", "many"])) rfl (def_in (ns := ["sheets", "many"]) a N F g sc_rank_sheet rfl ck_rank_sheet (v_rank_sheet (Φ := Phi) ) (fun _ _ _ _ _ _ us hl => match us, hl with | [_, _], _ => rfl) (hk := .inr ⟨rfl, fun _ _ _ _ _ _ us hl => match us, hl with | [_, _], _ => rfl⟩))
theorem in_weighted_answer (N : ∀ x ∈ bltN, mg x = none) {f : Addr} {fd : FuncData} (F : FunD K "weighted_answer" "weighted_answer" (defArgs (top 5)) (defBody (top 5)) (defScope (top 5)) [] [] f fd) (g : mg "weighted_answer" = some (.ref f)) (a : AllF P w K mg base fs Phi 3) : AllF P w K mg base fs Phi 4 :=
  a.succ (x := "weighted_answer") (m := ([false, false], [])) rfl (def_in (ns := []) a N F g sc_weighted_answer rfl ck_weighted_answer (v_weighted_answer (Φ := Phi) ) (fun _ _ _ _ _ _ us hl => match us, hl with | [_, _], _ => rfl))
theorem in_weighted_middle (N : ∀ x ∈ bltN, mg x = none) {f : Addr} {fd : FuncData} (F : FunD K "weighted_middle" "weighted_middle" (defArgs (top 6)) (defBody (top 6)) (defScope (top 6)) [] [] f fd) (g : mg "weighted_middle" = some (.ref f)) (a : AllF P w K mg base fs Phi 4) : AllF P w K mg base fs Phi 5 :=
  a.succ (x := "weighted_middle") (m := ([false, false], ["sheets", "weights"])) rfl (def_in (ns := ["sheets", "weights"]) a N F g sc_weighted_middle rfl ck_weighted_middle (v_weighted_middle (Φ := Phi) rfl) (fun _ _ _ _ _ _ us hl => match us, hl with | [_, _], _ => rfl) (hk := .inr ⟨rfl, fun _ _ _ _ _ _ us hl => match us, hl with | [_, _], _ => rfl⟩))
theorem in__law_pool (N : ∀ x ∈ bltN, mg x = none) {f : Addr} {fd : FuncData} (F : FunD K "_law_pool" "_law_pool" (defArgs (top 8)) (defBody (top 8)) (defScope (top 8)) [] [] f fd) (g : mg "_law_pool" = some (.ref f)) (a : AllF P w K mg base fs Phi 5) : AllF P w K mg base fs Phi 6 :=
  a.succ (x := "_law_pool") (m := ([false], [])) rfl (def_in (ns := []) a N F g sc__law_pool rfl ck__law_pool (v_pool (Φ := Phi) ) (fun _ _ _ _ _ _ us hl => match us, hl with | [_], _ => rfl))
theorem in__law_pick (N : ∀ x ∈ bltN, mg x = none) {f : Addr} {fd : FuncData} (F : FunD K "_law_pick" "_law_pick" (defArgs (top 9)) (defBody (top 9)) (defScope (top 9)) [] [] f fd) (g : mg "_law_pick" = some (.ref f)) (a : AllF P w K mg base fs Phi 6) : AllF P w K mg base fs Phi 7 :=
  a.succ (x := "_law_pick") (m := ([true, false], [])) rfl (def_in (ns := []) a N F g sc__law_pick rfl ck__law_pick (v_pick (Φ := Phi) ) (fun _ _ _ _ _ _ us hl => match us, hl with | [_, _], _ => rfl))
theorem in__law_fields (N : ∀ x ∈ bltN, mg x = none) {f : Addr} {fd : FuncData} (F : FunD K "_law_fields" "_law_fields" (defArgs (top 10)) (defBody (top 10)) (defScope (top 10)) [] [] f fd) (g : mg "_law_fields" = some (.ref f)) (a : AllF P w K mg base fs Phi 7) : AllF P w K mg base fs Phi 8 :=
  a.succ (x := "_law_fields") (m := ([true, false], [])) rfl (def_in (ns := []) a N F g sc__law_fields rfl ck__law_fields (v_fields (Φ := Phi) rfl) (fun _ _ _ _ _ _ us hl => match us, hl with | [_, _], _ => rfl))
theorem in__law_sayings (N : ∀ x ∈ bltN, mg x = none) {f : Addr} {fd : FuncData} (F : FunD K "_law_sayings" "_law_sayings" (defArgs (top 11)) (defBody (top 11)) (defScope (top 11)) [] [] f fd) (g : mg "_law_sayings" = some (.ref f)) (a : AllF P w K mg base fs Phi 8) : AllF P w K mg base fs Phi 9 :=
  a.succ (x := "_law_sayings") (m := ([false], [])) rfl (def_in (ns := []) a N F g sc__law_sayings rfl ck__law_sayings (v_sayings (Φ := Phi) ) (fun _ _ _ _ _ _ us hl => match us, hl with | [_], _ => rfl))
theorem in__law_holds (N : ∀ x ∈ bltN, mg x = none) {f : Addr} {fd : FuncData} (F : FunD K "_law_holds" "_law_holds" (defArgs (top 12)) (defBody (top 12)) (defScope (top 12)) [] [] f fd) (g : mg "_law_holds" = some (.ref f)) (a : AllF P w K mg base fs Phi 9) : AllF P w K mg base fs Phi 10 :=
  a.succ (x := "_law_holds") (m := ([false, false], [])) rfl (def_in (ns := []) a N F g sc__law_holds rfl ck__law_holds (v_holds (Φ := Phi) ) (fun _ _ _ _ _ _ us hl => match us, hl with | [_, _], _ => rfl))
theorem in__law_contrary (N : ∀ x ∈ bltN, mg x = none) {f : Addr} {fd : FuncData} (F : FunD K "_law_contrary" "_law_contrary" (defArgs (top 13)) (defBody (top 13)) (defScope (top 13)) [] [] f fd) (g : mg "_law_contrary" = some (.ref f)) (a : AllF P w K mg base fs Phi 10) : AllF P w K mg base fs Phi 11 :=
  a.succ (x := "_law_contrary") (m := ([false], [])) rfl (def_in (ns := []) a N F g sc__law_contrary rfl ck__law_contrary (v_contrary (Φ := Phi) ) (fun _ _ _ _ _ _ us hl => match us, hl with | [_], _ => rfl))
theorem in__law_strong (N : ∀ x ∈ bltN, mg x = none) {f : Addr} {fd : FuncData} (F : FunD K "_law_strong" "_law_strong" (defArgs (top 14)) (defBody (top 14)) (defScope (top 14)) [] [] f fd) (g : mg "_law_strong" = some (.ref f)) (a : AllF P w K mg base fs Phi 11) : AllF P w K mg base fs Phi 12 :=
  a.succ (x := "_law_strong") (m := ([false, false], [])) rfl (def_in (ns := []) a N F g sc__law_strong rfl ck__law_strong (v_none (Φ := Phi) ) (fun _ _ _ _ _ _ us hl => match us, hl with | [_, _], _ => rfl))
theorem in__law_answer_sayings (N : ∀ x ∈ bltN, mg x = none) {f : Addr} {fd : FuncData} (F : FunD K "_law_answer_sayings" "_law_answer_sayings" (defArgs (top 15)) (defBody (top 15)) (defScope (top 15)) [] [] f fd) (g : mg "_law_answer_sayings" = some (.ref f)) (a : AllF P w K mg base fs Phi 12) : AllF P w K mg base fs Phi 13 :=
  a.succ (x := "_law_answer_sayings") (m := ([false, false, false], [])) rfl (def_in (ns := []) a N F g sc__law_answer_sayings rfl ck__law_answer_sayings (v_none (Φ := Phi) ) (fun _ _ _ _ _ _ us hl => match us, hl with | [_, _, _], _ => rfl))
theorem in__law_keeps (N : ∀ x ∈ bltN, mg x = none) {f : Addr} {fd : FuncData} (F : FunD K "_law_keeps" "_law_keeps" (defArgs (top 16)) (defBody (top 16)) (defScope (top 16)) [] [] f fd) (g : mg "_law_keeps" = some (.ref f)) (a : AllF P w K mg base fs Phi 13) : AllF P w K mg base fs Phi 14 :=
  a.succ (x := "_law_keeps") (m := ([false, false], [])) rfl (def_in (ns := []) a N F g sc__law_keeps rfl ck__law_keeps (v_keeps (Φ := Phi) rfl) (fun _ _ _ _ _ _ us hl => match us, hl with | [_, _], _ => rfl))
theorem in__law_all (N : ∀ x ∈ bltN, mg x = none) {f : Addr} {fd : FuncData} (F : FunD K "_law_all" "_law_all" (defArgs (top 17)) (defBody (top 17)) (defScope (top 17)) [] [] f fd) (g : mg "_law_all" = some (.ref f)) (a : AllF P w K mg base fs Phi 14) : AllF P w K mg base fs Phi 15 :=
  a.succ (x := "_law_all") (m := ([false], [])) rfl (def_in (ns := []) a N F g sc__law_all rfl ck__law_all (v_all (Φ := Phi) ) (fun _ _ _ _ _ _ us hl => match us, hl with | [_], _ => rfl))
theorem in__law_agrees (N : ∀ x ∈ bltN, mg x = none) {f : Addr} {fd : FuncData} (F : FunD K "_law_agrees" "_law_agrees" (defArgs (top 18)) (defBody (top 18)) (defScope (top 18)) [] [] f fd) (g : mg "_law_agrees" = some (.ref f)) (a : AllF P w K mg base fs Phi 15) : AllF P w K mg base fs Phi 16 :=
  a.succ (x := "_law_agrees") (m := ([false, false], [])) rfl (def_in (ns := []) a N F g sc__law_agrees rfl ck__law_agrees (v_none (Φ := Phi) ) (fun _ _ _ _ _ _ us hl => match us, hl with | [_, _], _ => rfl))
theorem in__law_rules (N : ∀ x ∈ bltN, mg x = none) {f : Addr} {fd : FuncData} (F : FunD K "_law_rules" "_law_rules" (defArgs (top 19)) (defBody (top 19)) (defScope (top 19)) [] [] f fd) (g : mg "_law_rules" = some (.ref f)) (a : AllF P w K mg base fs Phi 16) : AllF P w K mg base fs Phi 17 :=
  a.succ (x := "_law_rules") (m := ([true, false, false, false], [])) rfl (def_in (ns := []) a N F g sc__law_rules rfl ck__law_rules (v_rules (Φ := Phi) rfl rfl rfl rfl) (fun _ _ _ _ _ _ us hl => match us, hl with | [_, _, _, _], _ => rfl))
theorem in__law_counts (N : ∀ x ∈ bltN, mg x = none) {f : Addr} {fd : FuncData} (F : FunD K "_law_counts" "_law_counts" (defArgs (top 20)) (defBody (top 20)) (defScope (top 20)) [] [] f fd) (g : mg "_law_counts" = some (.ref f)) (a : AllF P w K mg base fs Phi 17) : AllF P w K mg base fs Phi 18 :=
  a.succ (x := "_law_counts") (m := ([true, false], [])) rfl (def_in (ns := []) a N F g sc__law_counts rfl ck__law_counts (v_counts (Φ := Phi) rfl) (fun _ _ _ _ _ _ us hl => match us, hl with | [_, _], _ => rfl))
theorem in__law_form (N : ∀ x ∈ bltN, mg x = none) {f : Addr} {fd : FuncData} (F : FunD K "_law_form" "_law_form" (defArgs (top 21)) (defBody (top 21)) (defScope (top 21)) [] [] f fd) (g : mg "_law_form" = some (.ref f)) (a : AllF P w K mg base fs Phi 18) : AllF P w K mg base fs Phi 19 :=
  a.succ (x := "_law_form") (m := ([true, false, false], [])) rfl (def_in (ns := []) a N F g sc__law_form rfl ck__law_form (v_form (Φ := Phi) rfl rfl rfl rfl) (fun _ _ _ _ _ _ us hl => match us, hl with | [_, _, _], _ => rfl))
theorem in__law_half (N : ∀ x ∈ bltN, mg x = none) {f : Addr} {fd : FuncData} (F : FunD K "_law_half" "_law_half" (defArgs (top 22)) (defBody (top 22)) (defScope (top 22)) [] [] f fd) (g : mg "_law_half" = some (.ref f)) (a : AllF P w K mg base fs Phi 19) : AllF P w K mg base fs Phi 20 :=
  a.succ (x := "_law_half") (m := ([true, false, false], [])) rfl (def_in (ns := []) a N F g sc__law_half rfl ck__law_half (v_noneL (Φ := Phi) ) (fun _ _ _ _ _ _ us hl => match us, hl with | [_, _, _], _ => rfl))
theorem in__law_same (N : ∀ x ∈ bltN, mg x = none) {f : Addr} {fd : FuncData} (F : FunD K "_law_same" "_law_same" (defArgs (top 23)) (defBody (top 23)) (defScope (top 23)) [] [] f fd) (g : mg "_law_same" = some (.ref f)) (a : AllF P w K mg base fs Phi 20) : AllF P w K mg base fs Phi 21 :=
  a.succ (x := "_law_same") (m := ([false, false], [])) rfl (def_in (ns := []) a N F g sc__law_same rfl ck__law_same (v_same (Φ := Phi) ) (fun _ _ _ _ _ _ us hl => match us, hl with | [_, _], _ => rfl))
theorem in__law_rising (N : ∀ x ∈ bltN, mg x = none) {f : Addr} {fd : FuncData} (F : FunD K "_law_rising" "_law_rising" (defArgs (top 24)) (defBody (top 24)) (defScope (top 24)) [] [] f fd) (g : mg "_law_rising" = some (.ref f)) (a : AllF P w K mg base fs Phi 21) : AllF P w K mg base fs Phi 22 :=
  a.succ (x := "_law_rising") (m := ([true, false], [])) rfl (def_in (ns := []) a N F g sc__law_rising rfl ck__law_rising (v_rising (Φ := Phi) rfl rfl rfl rfl rfl rfl) (fun _ _ _ _ _ _ us hl => match us, hl with | [_, _], _ => rfl))
theorem in__law_far (N : ∀ x ∈ bltN, mg x = none) {f : Addr} {fd : FuncData} (F : FunD K "_law_far" "_law_far" (defArgs (top 25)) (defBody (top 25)) (defScope (top 25)) [] [] f fd) (g : mg "_law_far" = some (.ref f)) (a : AllF P w K mg base fs Phi 22) : AllF P w K mg base fs Phi 23 :=
  a.succ (x := "_law_far") (m := ([false, false], [])) rfl (def_in (ns := []) a N F g sc__law_far rfl ck__law_far (v_law_far (Φ := Phi) ) (fun _ _ _ _ _ _ us hl => match us, hl with | [_, _], _ => rfl))
theorem in__law_rank (N : ∀ x ∈ bltN, mg x = none) {f : Addr} {fd : FuncData} (F : FunD K "_law_rank" "_law_rank" (defArgs (top 26)) (defBody (top 26)) (defScope (top 26)) [] [] f fd) (g : mg "_law_rank" = some (.ref f)) (a : AllF P w K mg base fs Phi 23) : AllF P w K mg base fs Phi 24 :=
  a.succ (x := "_law_rank") (m := ([false, false], [])) rfl (def_in (ns := []) a N F g sc__law_rank rfl ck__law_rank (v_law_rank (Φ := Phi) ) (fun _ _ _ _ _ _ us hl => match us, hl with | [_, _], _ => rfl))
theorem in__law_centre (N : ∀ x ∈ bltN, mg x = none) {f : Addr} {fd : FuncData} (F : FunD K "_law_centre" "_law_centre" (defArgs (top 27)) (defBody (top 27)) (defScope (top 27)) [] [] f fd) (g : mg "_law_centre" = some (.ref f)) (a : AllF P w K mg base fs Phi 24) : AllF P w K mg base fs Phi 25 :=
  a.succ (x := "_law_centre") (m := ([false], [])) rfl (def_in (ns := []) a N F g sc__law_centre rfl ck__law_centre (v_law_centre (Φ := Phi) rfl) (fun _ _ _ _ _ _ us hl => match us, hl with | [_], _ => rfl))
theorem in__law_weighted (N : ∀ x ∈ bltN, mg x = none) {f : Addr} {fd : FuncData} (F : FunD K "_law_weighted" "_law_weighted" (defArgs (top 28)) (defBody (top 28)) (defScope (top 28)) [] [] f fd) (g : mg "_law_weighted" = some (.ref f)) (a : AllF P w K mg base fs Phi 25) : AllF P w K mg base fs Phi 26 :=
  a.succ (x := "_law_weighted") (m := ([false, false], [])) rfl (def_in (ns := []) a N F g sc__law_weighted rfl ck__law_weighted (v_law_weighted (Φ := Phi) ) (fun _ _ _ _ _ _ us hl => match us, hl with | [_, _], _ => rfl))
theorem in__law_weights (N : ∀ x ∈ bltN, mg x = none) {f : Addr} {fd : FuncData} (F : FunD K "_law_weights" "_law_weights" (defArgs (top 29)) (defBody (top 29)) (defScope (top 29)) [] [] f fd) (g : mg "_law_weights" = some (.ref f)) (a : AllF P w K mg base fs Phi 26) : AllF P w K mg base fs Phi 27 :=
  a.succ (x := "_law_weights") (m := ([true, false], [])) rfl (def_in (ns := []) a N F g sc__law_weights rfl ck__law_weights (v_weights (Φ := Phi) rfl) (fun _ _ _ _ _ _ us hl => match us, hl with | [_, _], _ => rfl))
theorem in__law_asks (N : ∀ x ∈ bltN, mg x = none) {f : Addr} {fd : FuncData} (F : FunD K "_law_asks" "_law_asks" (defArgs (top 30)) (defBody (top 30)) (defScope (top 30)) [] [] f fd) (g : mg "_law_asks" = some (.ref f)) (a : AllF P w K mg base fs Phi 27) : AllF P w K mg base fs Phi 28 :=
  a.succ (x := "_law_asks") (m := ([true, false, false], [])) rfl (def_in (ns := []) a N F g sc__law_asks rfl ck__law_asks (v_asks (Φ := Phi) rfl rfl rfl rfl rfl rfl rfl rfl rfl rfl rfl) (fun _ _ _ _ _ _ us hl => match us, hl with | [_, _, _], _ => rfl))
theorem in__law_among (N : ∀ x ∈ bltN, mg x = none) {f : Addr} {fd : FuncData} (F : FunD K "_law_among" "_law_among" (defArgs (top 31)) (defBody (top 31)) (defScope (top 31)) [] [] f fd) (g : mg "_law_among" = some (.ref f)) (a : AllF P w K mg base fs Phi 28) : AllF P w K mg base fs Phi 29 :=
  a.succ (x := "_law_among") (m := ([false, false], [])) rfl (def_in (ns := []) a N F g sc__law_among rfl ck__law_among (v_among (Φ := Phi) rfl) (fun _ _ _ _ _ _ us hl => match us, hl with | [_, _], _ => rfl))
theorem in__law_scene (N : ∀ x ∈ bltN, mg x = none) {f : Addr} {fd : FuncData} (F : FunD K "_law_scene" "_law_scene" (defArgs (top 32)) (defBody (top 32)) (defScope (top 32)) [] [] f fd) (g : mg "_law_scene" = some (.ref f)) (a : AllF P w K mg base fs Phi 29) : AllF P w K mg base fs Phi 30 :=
  a.succ (x := "_law_scene") (m := ([true, false, false], [])) rfl (def_in (ns := []) a N F g sc__law_scene rfl ck__law_scene (v_scene (Φ := Phi) rfl rfl rfl rfl rfl rfl rfl rfl rfl rfl rfl rfl) (fun _ _ _ _ _ _ us hl => match us, hl with | [_, _, _], _ => rfl))
theorem in__law_wide (N : ∀ x ∈ bltN, mg x = none) {f : Addr} {fd : FuncData} (F : FunD K "_law_wide" "_law_wide" (defArgs (top 33)) (defBody (top 33)) (defScope (top 33)) [] [] f fd) (g : mg "_law_wide" = some (.ref f)) (a : AllF P w K mg base fs Phi 30) : AllF P w K mg base fs Phi 31 :=
  a.succ (x := "_law_wide") (m := ([true], [])) rfl (def_in (ns := []) a N F g sc__law_wide rfl ck__law_wide (v_wide (Φ := Phi) rfl rfl rfl) (fun _ _ _ _ _ _ us hl => match us, hl with | [_], _ => rfl))
theorem in_law (N : ∀ x ∈ bltN, mg x = none) {f : Addr} {fd : FuncData} (F : FunD K "law" "law" (defArgs (top 34)) (defBody (top 34)) (defScope (top 34)) [] [] f fd) (g : mg "law" = some (.ref f)) (a : AllF P w K mg base fs Phi 31) : AllF P w K mg base fs Phi 32 :=
  a.succ (x := "law") (m := ([false], [])) rfl (def_in (ns := []) a N F g sc_law rfl ck_law (v_law (Φ := Phi) rfl rfl rfl rfl rfl rfl rfl rfl) (fun _ _ _ _ _ _ us hl => match us, hl with | [_], _ => rfl))
end
theorem facts {P : Program} {w : World} {K : PySem.W.Frag} {h : Heap} {mg : PySem.Str → Option Value} {f : Addr} (X : K.In h) (G : h.Ns mainGlobals mg) (hfa : mg ("law" : PySem.Str) = some (.ref f)) (c : He.SaysD HeadT.fa HeadT.fn K) :
    ∃ fd : FuncData, (∀ (s : Shared) (v : Value), BindsTo s fd ⟨[v], []⟩ [("script", v)]) ∧ ∀ base : Heap, K.In base → base.Ns mainGlobals mg → FnOk P w K mg base CX0 32 f fd ["script"] (spT K [false] (spF P_law)) := by
  have N : ∀ x ∈ bltN, mg x = none := by
    intro x hx
    simp only [bltN, List.mem_cons, List.not_mem_nil, or_false] at hx
    rcases hx with rfl | rfl | rfl | rfl | rfl | rfl | rfl | rfl | rfl | rfl | rfl | rfl | rfl | rfl | rfl | rfl | rfl | rfl
    · exact He.free_ok X G (c.fact 32 (f := .free "len") rfl)
    · exact He.free_ok X G (c.fact 33 (f := .free "list") rfl)
    · exact He.free_ok X G (c.fact 34 (f := .free "tuple") rfl)
    · exact He.free_ok X G (c.fact 35 (f := .free "int") rfl)
    · exact He.free_ok X G (c.fact 36 (f := .free "sorted") rfl)
    · exact He.free_ok X G (c.fact 37 (f := .free "abs") rfl)
    · exact He.free_ok X G (c.fact 38 (f := .free "sum") rfl)
    · exact He.free_ok X G (c.fact 39 (f := .free "all") rfl)
    · exact He.free_ok X G (c.fact 40 (f := .free "any") rfl)
    · exact He.free_ok X G (c.fact 41 (f := .free "str") rfl)
    · exact He.free_ok X G (c.fact 42 (f := .free "isinstance") rfl)
    · exact He.free_ok X G (c.fact 43 (f := .free "bool") rfl)
    · exact He.free_ok X G (c.fact 44 (f := .free "max") rfl)
    · exact He.free_ok X G (c.fact 45 (f := .free "min") rfl)
    · exact He.free_ok X G (c.fact 46 (f := .free "range") rfl)
    · exact He.free_ok X G (c.fact 47 (f := .free "enumerate") rfl)
    · exact He.free_ok X G (c.fact 48 (f := .free "zip") rfl)
    · exact He.free_ok X G (c.fact 49 (f := .free "set") rfl)
  obtain ⟨d0, F0⟩ := c.def_ 0 (d := HeadT.mkD "far_from" 1) rfl
  obtain ⟨d1, F1⟩ := c.def_ 1 (d := HeadT.mkD "centre_of" 2) rfl
  obtain ⟨d2, F2⟩ := c.def_ 2 (d := HeadT.mkD "rank_sheet" 4) rfl
  obtain ⟨d3, F3⟩ := c.def_ 3 (d := HeadT.mkD "weighted_answer" 5) rfl
  obtain ⟨d4, F4⟩ := c.def_ 4 (d := HeadT.mkD "weighted_middle" 6) rfl
  obtain ⟨d5, F5⟩ := c.def_ 5 (d := HeadT.mkD "_law_pool" 8) rfl
  obtain ⟨d6, F6⟩ := c.def_ 6 (d := HeadT.mkD "_law_pick" 9) rfl
  obtain ⟨d7, F7⟩ := c.def_ 7 (d := HeadT.mkD "_law_fields" 10) rfl
  obtain ⟨d8, F8⟩ := c.def_ 8 (d := HeadT.mkD "_law_sayings" 11) rfl
  obtain ⟨d9, F9⟩ := c.def_ 9 (d := HeadT.mkD "_law_holds" 12) rfl
  obtain ⟨d10, F10⟩ := c.def_ 10 (d := HeadT.mkD "_law_contrary" 13) rfl
  obtain ⟨d11, F11⟩ := c.def_ 11 (d := HeadT.mkD "_law_strong" 14) rfl
  obtain ⟨d12, F12⟩ := c.def_ 12 (d := HeadT.mkD "_law_answer_sayings" 15) rfl
  obtain ⟨d13, F13⟩ := c.def_ 13 (d := HeadT.mkD "_law_keeps" 16) rfl
  obtain ⟨d14, F14⟩ := c.def_ 14 (d := HeadT.mkD "_law_all" 17) rfl
  obtain ⟨d15, F15⟩ := c.def_ 15 (d := HeadT.mkD "_law_agrees" 18) rfl
  obtain ⟨d16, F16⟩ := c.def_ 16 (d := HeadT.mkD "_law_rules" 19) rfl
  obtain ⟨d17, F17⟩ := c.def_ 17 (d := HeadT.mkD "_law_counts" 20) rfl
  obtain ⟨d18, F18⟩ := c.def_ 18 (d := HeadT.mkD "_law_form" 21) rfl
  obtain ⟨d19, F19⟩ := c.def_ 19 (d := HeadT.mkD "_law_half" 22) rfl
  obtain ⟨d20, F20⟩ := c.def_ 20 (d := HeadT.mkD "_law_same" 23) rfl
  obtain ⟨d21, F21⟩ := c.def_ 21 (d := HeadT.mkD "_law_rising" 24) rfl
  obtain ⟨d22, F22⟩ := c.def_ 22 (d := HeadT.mkD "_law_far" 25) rfl
  obtain ⟨d23, F23⟩ := c.def_ 23 (d := HeadT.mkD "_law_rank" 26) rfl
  obtain ⟨d24, F24⟩ := c.def_ 24 (d := HeadT.mkD "_law_centre" 27) rfl
  obtain ⟨d25, F25⟩ := c.def_ 25 (d := HeadT.mkD "_law_weighted" 28) rfl
  obtain ⟨d26, F26⟩ := c.def_ 26 (d := HeadT.mkD "_law_weights" 29) rfl
  obtain ⟨d27, F27⟩ := c.def_ 27 (d := HeadT.mkD "_law_asks" 30) rfl
  obtain ⟨d28, F28⟩ := c.def_ 28 (d := HeadT.mkD "_law_among" 31) rfl
  obtain ⟨d29, F29⟩ := c.def_ 29 (d := HeadT.mkD "_law_scene" 32) rfl
  obtain ⟨d30, F30⟩ := c.def_ 30 (d := HeadT.mkD "_law_wide" 33) rfl
  obtain ⟨d31, F31⟩ := c.def_ 31 (d := HeadT.mkD "law" 34) rfl
  have e := hfa.symm.trans (He.glo_ok X G (c.fact 31 (f := .glo "law") rfl))
  cases e
  have b := FunD.bindsA (ps := ["script"]) F31 fun _ _ _ _ _ _ us hl => match us, hl with | [_], _ => rfl
  refine ⟨d31, fun s v => b s [v] rfl, fun base _ _ => ?_⟩
  have a1 : AllF P w K mg base fs Phi 1 := in_far_from N F0 (He.glo_ok X G (c.fact 0 (f := .glo "far_from") rfl)) AllF.zero
  have a2 : AllF P w K mg base fs Phi 2 := in_centre_of N F1 (He.glo_ok X G (c.fact 1 (f := .glo "centre_of") rfl)) a1
  have a3 : AllF P w K mg base fs Phi 3 := in_rank_sheet N F2 (He.glo_ok X G (c.fact 2 (f := .glo "rank_sheet") rfl)) a2
  have a4 : AllF P w K mg base fs Phi 4 := in_weighted_answer N F3 (He.glo_ok X G (c.fact 3 (f := .glo "weighted_answer") rfl)) a3
  have a5 : AllF P w K mg base fs Phi 5 := in_weighted_middle N F4 (He.glo_ok X G (c.fact 4 (f := .glo "weighted_middle") rfl)) a4
  have a6 : AllF P w K mg base fs Phi 6 := in__law_pool N F5 (He.glo_ok X G (c.fact 5 (f := .glo "_law_pool") rfl)) a5
  have a7 : AllF P w K mg base fs Phi 7 := in__law_pick N F6 (He.glo_ok X G (c.fact 6 (f := .glo "_law_pick") rfl)) a6
  have a8 : AllF P w K mg base fs Phi 8 := in__law_fields N F7 (He.glo_ok X G (c.fact 7 (f := .glo "_law_fields") rfl)) a7
  have a9 : AllF P w K mg base fs Phi 9 := in__law_sayings N F8 (He.glo_ok X G (c.fact 8 (f := .glo "_law_sayings") rfl)) a8
  have a10 : AllF P w K mg base fs Phi 10 := in__law_holds N F9 (He.glo_ok X G (c.fact 9 (f := .glo "_law_holds") rfl)) a9
  have a11 : AllF P w K mg base fs Phi 11 := in__law_contrary N F10 (He.glo_ok X G (c.fact 10 (f := .glo "_law_contrary") rfl)) a10
  have a12 : AllF P w K mg base fs Phi 12 := in__law_strong N F11 (He.glo_ok X G (c.fact 11 (f := .glo "_law_strong") rfl)) a11
  have a13 : AllF P w K mg base fs Phi 13 := in__law_answer_sayings N F12 (He.glo_ok X G (c.fact 12 (f := .glo "_law_answer_sayings") rfl)) a12
  have a14 : AllF P w K mg base fs Phi 14 := in__law_keeps N F13 (He.glo_ok X G (c.fact 13 (f := .glo "_law_keeps") rfl)) a13
  have a15 : AllF P w K mg base fs Phi 15 := in__law_all N F14 (He.glo_ok X G (c.fact 14 (f := .glo "_law_all") rfl)) a14
  have a16 : AllF P w K mg base fs Phi 16 := in__law_agrees N F15 (He.glo_ok X G (c.fact 15 (f := .glo "_law_agrees") rfl)) a15
  have a17 : AllF P w K mg base fs Phi 17 := in__law_rules N F16 (He.glo_ok X G (c.fact 16 (f := .glo "_law_rules") rfl)) a16
  have a18 : AllF P w K mg base fs Phi 18 := in__law_counts N F17 (He.glo_ok X G (c.fact 17 (f := .glo "_law_counts") rfl)) a17
  have a19 : AllF P w K mg base fs Phi 19 := in__law_form N F18 (He.glo_ok X G (c.fact 18 (f := .glo "_law_form") rfl)) a18
  have a20 : AllF P w K mg base fs Phi 20 := in__law_half N F19 (He.glo_ok X G (c.fact 19 (f := .glo "_law_half") rfl)) a19
  have a21 : AllF P w K mg base fs Phi 21 := in__law_same N F20 (He.glo_ok X G (c.fact 20 (f := .glo "_law_same") rfl)) a20
  have a22 : AllF P w K mg base fs Phi 22 := in__law_rising N F21 (He.glo_ok X G (c.fact 21 (f := .glo "_law_rising") rfl)) a21
  have a23 : AllF P w K mg base fs Phi 23 := in__law_far N F22 (He.glo_ok X G (c.fact 22 (f := .glo "_law_far") rfl)) a22
  have a24 : AllF P w K mg base fs Phi 24 := in__law_rank N F23 (He.glo_ok X G (c.fact 23 (f := .glo "_law_rank") rfl)) a23
  have a25 : AllF P w K mg base fs Phi 25 := in__law_centre N F24 (He.glo_ok X G (c.fact 24 (f := .glo "_law_centre") rfl)) a24
  have a26 : AllF P w K mg base fs Phi 26 := in__law_weighted N F25 (He.glo_ok X G (c.fact 25 (f := .glo "_law_weighted") rfl)) a25
  have a27 : AllF P w K mg base fs Phi 27 := in__law_weights N F26 (He.glo_ok X G (c.fact 26 (f := .glo "_law_weights") rfl)) a26
  have a28 : AllF P w K mg base fs Phi 28 := in__law_asks N F27 (He.glo_ok X G (c.fact 27 (f := .glo "_law_asks") rfl)) a27
  have a29 : AllF P w K mg base fs Phi 29 := in__law_among N F28 (He.glo_ok X G (c.fact 28 (f := .glo "_law_among") rfl)) a28
  have a30 : AllF P w K mg base fs Phi 30 := in__law_scene N F29 (He.glo_ok X G (c.fact 29 (f := .glo "_law_scene") rfl)) a29
  have a31 : AllF P w K mg base fs Phi 31 := in__law_wide N F30 (He.glo_ok X G (c.fact 30 (f := .glo "_law_wide") rfl)) a30
  exact def_ok 31 200 F31 sc_law rfl a31 (Nat.le_refl _) N ck_law (v_law (Φ := Phi) rfl rfl rfl rfl rfl rfl rfl rfl)
end K84
end
set_option maxHeartbeats 0
open PySem PySem.W PySem.Calls PyProof.Rows
theorem PySem.Challenge.cw_halffilled_k84_whole_centres_holds : PySem.Challenge.rw_halffilled_k84_whole_centres.Holds := by
  w_on; o_law
  refine HandSHeadRun.head_any (r := OpenLaw.row PySem.Challenge.rw_halffilled_k84_whole_centres) (q := view (OpenLaw.row PySem.Challenge.rw_halffilled_k84_whole_centres).prog [34]) (H := HeadT.hk) (ob := HeadT.ob) (M := 3000) (loose := HeadT.nm) (d := HandSHeadRun.topDef (OpenLaw.row PySem.Challenge.rw_halffilled_k84_whole_centres).prog 34) (kwd := []) HeadT.ob_eq
    (by kernel_rfl) (fun s => by kernel_rfl) HeadT.run (by kernel_rfl) (by kernel_rfl) (by kernel_rfl) (by rfl) (by first | assumption | decide +kernel) (by decide +kernel) ⟨rfl, rfl, rfl, rfl, rfl, by decide +kernel⟩ ?hw ?hc
  case hw => w_witness2
  case hc =>
    refine L2.walk_ofE (l := PySem.Challenge.rw_halffilled_k84_whole_centres) (n := 63) (k := 32) (x := "script") (CX := L2.CX0) rfl (by decide) (by kernel_rfl) ⟨rfl, by decide, by decide⟩ ?F (fun _ _ _ _ z => z)
    intro w mg fa h Y G hmg0
    obtain ⟨K, KX, c⟩ := Y
    have hmg : mg ("law" : PySem.Str) = some (.ref fa) := by
      have e : (HandSHeadRun.topDef (OpenLaw.row PySem.Challenge.rw_halffilled_k84_whole_centres).prog 34).name = ("law" : PySem.Str) := by kernel_rfl
      rw [← e]
      exact hmg0
    obtain ⟨fd, hb, hF⟩ := K84.facts (P := (PySem.Challenge.rw_halffilled_k84_whole_centres).prog) (w := w) KX G hmg c
    exact ⟨K, fd, PL.spT K [false] (PL.spF K84.P_law), KX, hb, fun H a ns hl _ hS => PL.law_sp hS fun Q q => ⟨ns, rfl, q⟩, hF⟩

