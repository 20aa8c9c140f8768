import PyProof.Rows.All
import Wide.All
import OpenK.AllK
import Wide.FinOn
import HandS.ForMost
import HandS.Exc
import HandS.ExcOwn
import HandS.TryOnly
import HandS.TupAny
import HandS.TupMul
import HandS.IsInst
import HandS.Conv
import HandS.Zip
import HandS.Defaults
import HandS.HeadHook1
import HandS.HeadHook2
import HandS.Wide
import PyProof.ListStr
import HandS.HeadWalk
import HandS.Comp
import HandS.Iter
import HandS.Dict
import HandS.List
import HandS.Flow
import HandS.Style
import KE.KRevSl
import KE.GoesEnum
import KE.GoesZip
import HandS.Small
import PyProof.IsRules
import PyProof.ExcBaseAll.ValueError
import HandS.Head2
import HandS.HeadEnd
import KE.KStateDown
import Lean
import HandS.Head0
import HandS.Head1
import Wide.Once
import HandS.Ends
import PyProof.FitsInt
import PySem.Challenge.RW_swornworlds_k72_whole_screens_show_what
set_option Elab.async false
set_option linter.all false
set_option maxRecDepth 100000
/-! Lw1: values as trees, the memory of what may change, a small language and what it wants (weakest preconditions). -/
namespace Lw
open PySem L2

/-- a key of a dict -/
inductive DK where
  | i (n : Int) | s (cs : List Nat)
  deriving DecidableEq
/-- values: trees; loc a: an object that may change, at a -/
inductive D where
  | non | bl (b : Bool) | int (i : Int) | str (cs : List Nat)
  | tup (xs : List D) | lst (xs : List D)
  | ins (c : Nat) (fs : List Nat) (vs : List D)
  | dct (ks : List DK) (vs : List D)
  | loc (a : Addr)
  | scr (ns : List Int)
  deriving Inhabited
/-- what may change -/
inductive MO where
  | lst (xs : List D) | ins (c : Nat) (fs : List Nat) (vs : List D) | dct (ks : List DK) (vs : List D)
abbrev Mem := Addr → Option MO
def Mem.set (M : Mem) (a : Addr) (o : MO) : Mem := fun b => if b = a then some o else M b
def Mem.del (M : Mem) (a : Addr) : Mem := fun b => if b = a then none else M b
theorem Mem.set_same {M : Mem} {a : Addr} {o : MO} : (M.set a o) a = some o := by
  unfold Mem.set
  rw [if_pos rfl]
theorem Mem.set_ne {M : Mem} {a b : Addr} {o : MO} (h : b ≠ a) : (M.set a o) b = M b := by
  unfold Mem.set
  rw [if_neg h]
theorem Mem.del_same {M : Mem} {a : Addr} : (M.del a) a = none := by
  unfold Mem.del
  rw [if_pos rfl]
theorem Mem.del_ne {M : Mem} {a b : Addr} (h : b ≠ a) : (M.del a) b = M b := by
  unfold Mem.del
  rw [if_neg h]
theorem Mem.set_set {M : Mem} {a : Addr} {o u : MO} : (M.set a o).set a u = M.set a u := by
  funext b
  by_cases e : b = a <;> simp [Mem.set, e]
theorem Mem.del_set {M : Mem} {a : Addr} {o : MO} (h : M a = none) : (M.set a o).del a = M := by
  funext b
  by_cases e : b = a <;> simp [Mem.set, Mem.del, e, h]
theorem Mem.set_self {M : Mem} {a : Addr} {o : MO} (h : M a = some o) : M.set a o = M := by
  funext b
  by_cases e : b = a <;> simp [Mem.set, e, h]
theorem Mem.set_swap {M : Mem} {a b : Addr} {o u : MO} (h : a ≠ b) : (M.set a o).set b u = (M.set b u).set a o := by
  funext c
  by_cases e : c = a
  · subst e
    simp [Mem.set, h]
  · simp [Mem.set, e]
theorem Mem.del_set_ne {M : Mem} {a b : Addr} {o : MO} (h : a ≠ b) : (M.set b o).del a = (M.del a).set b o := by
  funext c
  by_cases e : c = a
  · subst e
    simp [Mem.set, Mem.del, h]
  · simp [Mem.set, Mem.del, e]
theorem Mem.ne_of_none {M : Mem} {a b : Addr} {o : MO} (h : M a = some o) (h' : M b = none) : a ≠ b := by
  intro e
  rw [e, h'] at h
  cases h

/-! ### small helpers -/
def opt {α : Type} (o : Option α) (k : α → Prop) : Prop := match o with
  | some a => k a
  | none => False
theorem opt_some {α : Type} {a : α} {k : α → Prop} : opt (some a) k = k a := rfl
theorem opt_none {α : Type} {k : α → Prop} : opt (none : Option α) k = False := rfl
theorem opt_elim {α : Type} {o : Option α} {k : α → Prop} (h : opt o k) : ∃ a, o = some a ∧ k a := by
  cases o with
  | none => exact h.elim
  | some a => exact ⟨a, rfl, h⟩
theorem opt_intro {α : Type} {o : Option α} {a : α} {k : α → Prop} (e : o = some a) (h : k a) : opt o k := by
  rw [e]
  exact h
/-- the greatest length of a list, a tuple, a text -/
abbrev lim : Nat := sizeLine

/-! ### what operations give -/
/-- a list that may change is read as it stands -/
def deref (M : Mem) : D → D
  | .loc a => match M a with
    | some (.lst xs) => .lst xs
    | some (.dct ks vs) => .dct ks vs
    | some (.ins c fs vs) => .ins c fs vs
    | none => .loc a
  | d => d
def truthF : D → Option Bool
  | .non => some false
  | .bl b => some b
  | .int i => some (i != 0)
  | .str cs => if cs.length ≤ lim then some (!cs.isEmpty) else none
  | .tup xs => some (!xs.isEmpty)
  | .lst xs => some (!xs.isEmpty)
  | _ => none
def lenF : D → Option Nat
  | .str cs => if cs.length ≤ lim then some cs.length else none
  | .tup xs => some xs.length
  | .lst xs => some xs.length
  | .dct ks _ => some ks.length
  | .scr ns => some ns.length
  | _ => none
/-- the key that a value is -/
def keyF : D → Option DK
  | .int i => some (.i i)
  | .str cs => some (.s cs)
  | _ => none
def getK : List DK → List D → DK → Option D
  | k :: ks, v :: vs, q => if k = q then some v else getK ks vs q
  | _, _, _ => none
/-- a dict with a key's value put: the keys, the values -/
def putK : List DK → List D → DK → D → List DK × List D
  | k :: ks, v :: vs, q, d => if k = q then (k :: ks, d :: vs) else (k :: (putK ks vs q d).1, v :: (putK ks vs q d).2)
  | _, _, q, d => ([q], [d])
def idxF : D → D → Option D
  | .lst xs, .int i => atI xs i
  | .tup xs, .int i => atI xs i
  | .str cs, .int i => if cs.length ≤ lim then (atI cs i).map fun c => .str [c] else none
  | .dct ks vs, y => (keyF y).bind fun k => getK ks vs k
  | _, _ => none
/-- the items of xs[lo:hi] -/
def cutA {α : Type} (xs : List α) (lo hi : Option Int) : List α := (xs.drop (HT.sIx xs.length 0 lo)).take (HT.sIx xs.length xs.length hi - HT.sIx xs.length 0 lo)
def slF (x : D) (lo hi : Option Int) : Option D := match x with
  | .lst xs => some (.lst (cutA xs lo hi))
  | .tup xs => some (.tup (cutA xs lo hi))
  | .str cs => if cs.length ≤ lim then some (.str (cutA cs lo hi)) else none
  | .scr ns => some (.lst (cutA (ns.map .int) lo hi))
  | _ => none
def revF : D → Option D
  | .lst xs => some (.lst xs.reverse)
  | .tup xs => some (.tup xs.reverse)
  | _ => none
def addF : D → D → Option D
  | .int i, .int j => some (.int (i + j))
  | .str a, .str b => if a.length + b.length ≤ lim then some (.str (a ++ b)) else none
  | .tup a, .tup b => if a.length + b.length ≤ lim then some (.tup (a ++ b)) else none
  | .lst a, .lst b => if a.length + b.length ≤ lim then some (.lst (a ++ b)) else none
  | _, _ => none
def subF : D → D → Option D
  | .int i, .int j => some (.int (i - j))
  | _, _ => none
def MulOk (i j : Int) : Prop := (-(2 ^ 64) < i ∧ i < 2 ^ 64) ∨ (-(2 ^ 64) < j ∧ j < 2 ^ 64)
instance (i j : Int) : Decidable (MulOk i j) := by
  unfold MulOk
  infer_instance
def mulF : D → D → Option D
  | .int i, .int j => if MulOk i j then some (.int (i * j)) else none
  | .lst xs, .int k => if -(2 ^ 63) ≤ k ∧ k < 2 ^ 63 ∧ xs.length * k.toNat ≤ lim then some (.lst (List.replicate k.toNat xs).flatten) else none
  | .tup xs, .int k => if xs ≠ [] ∧ 2 ≤ k ∧ k ≤ 1000 ∧ xs.length ≤ 1000 then some (.tup (List.replicate k.toNat xs).flatten) else none
  | .str cs, .int k => if cs ≠ [] ∧ 2 ≤ k ∧ k ≤ 1000 ∧ cs.length ≤ 1000 then some (.str (List.replicate k.toNat cs).flatten) else none
  | _, _ => none
def fdivF : D → D → Option D
  | .int i, .int j => if 0 < j ∧ j < 1073741824 then some (.int (i / j)) else none
  | _, _ => none
def modF : D → D → Option D
  | .int i, .int j => if 0 < j then some (.int (i % j)) else none
  | _, _ => none
def powF : D → D → Option D
  | .int i, .int j => if 0 ≤ j ∧ j ≤ 1000000 ∧ i.natAbs < 2 ^ 64 then some (.int (i ^ j.toNat)) else none
  | _, _ => none
inductive Bop where
  | add | sub | mul | fdiv | mod | pow
  deriving DecidableEq
def binF : Bop → D → D → Option D
  | .add => addF
  | .sub => subF
  | .mul => mulF
  | .fdiv => fdivF
  | .mod => modF
  | .pow => powF

/-- op= at a name: ints, texts -/
def augF (op : Bop) : D → D → Option D
  | .int i, .int j => if op = .pow then none else binF op (.int i) (.int j)
  | .str a, .str b => if op = .add then addF (.str a) (.str b) else none
  | _, _ => none

/-! ### == of data -/
mutual
def toPy : D → Option PyData
  | .non => some .none
  | .bl b => some (.bool b)
  | .int i => some (.int i)
  | .str cs => some (.str ⟨cs.toArray⟩)
  | .tup xs => (toPys xs).map .tuple
  | .lst xs => (toPys xs).map .list
  | .ins _ _ _ => none
  | .dct _ _ => none
  | .loc _ => none
  | .scr _ => none
def toPys : List D → Option (List PyData)
  | [] => some []
  | x :: xs => match toPy x, toPys xs with
    | some y, some ys => some (y :: ys)
    | _, _ => none
end
def eqDeep (x y : D) : Option Bool := match toPy x, toPy y with
  | some a, some b => if SeqAt.shaped a = true ∧ SeqAt.shaped b = true then some (PyData.eqv a b) else none
  | _, _ => none
def eqF : D → D → Option Bool
  | .int i, .int j => some (decide (i = j))
  | .str a, .str b => some (decide (a = b))
  | .bl a, .bl b => some (a == b)
  | .non, .non => some true
  | .non, .int _ => some false
  | .int _, .non => some false
  | .non, .bl _ => some false
  | .bl _, .non => some false
  | .non, .str _ => some false
  | .str _, .non => some false
  | .int _, .str _ => some false
  | .str _, .int _ => some false
  | .bl _, .str _ => some false
  | .str _, .bl _ => some false
  | x, y => eqDeep x y
/-! ### in -/
def flatD : D → Bool
  | .non => true
  | .bl _ => true
  | .int _ => true
  | .str _ => true
  | _ => false
/-- == of flat values -/
def eqFl : D → D → Bool
  | .non, .non => true
  | .bl a, .bl b => a == b
  | .bl a, .int b => (if a then 1 else 0) == b
  | .int a, .bl b => a == (if b then 1 else 0)
  | .int a, .int b => a == b
  | .str a, .str b => a == b
  | _, _ => false
def inF : D → D → Option Bool
  | x, .lst ys => if flatD x = true ∧ ys.all flatD = true then some (ys.any fun y => eqFl y x) else none
  | x, .tup ys => if flatD x = true ∧ ys.all flatD = true then some (ys.any fun y => eqFl y x) else none
  | .str [c], .str cs => some (decide (c ∈ cs))
  | x, .dct ks vs => (keyF x).map fun k => (getK ks vs k).isSome
  | _, _ => none
def intsF : List D → Option (List Int)
  | [] => some []
  | .int i :: xs => (intsF xs).map fun is => i :: is
  | _ => none
inductive Cop where
  | eq | ne | lt | le | gt | ge | isin | notin
  deriving DecidableEq
def cmpF : Cop → D → D → Option Bool
  | .eq, x, y => eqF x y
  | .ne, x, y => (eqF x y).map not
  | .lt, .int i, .int j => some (decide (i < j))
  | .le, .int i, .int j => some (decide (i ≤ j))
  | .gt, .int i, .int j => some (decide (j < i))
  | .ge, .int i, .int j => some (decide (j ≤ i))
  | .isin, x, y => inF x y
  | .notin, x, y => (inF x y).map not
  | _, _, _ => none

/-! ### kinds -/
inductive Ity where
  | int | bool | str | tup | lst | dct | cls (c : Nat)
  deriving DecidableEq
/-! ### the small language -/
/-- built-in functions -/
inductive Bi where
  | len | all | any | tuple | list | int | min2 | max2 | maxl | minl | sum | str | abs | sorted | lrng1 | lrng2
  | isi (ts : List Ity)
  deriving DecidableEq
/-- methods of built-in types -/
inductive Bm where
  | append | extend | popAt | join | split | upper | get
  deriving DecidableEq
mutual
inductive E where
  | var (i : Nat)
  | cst (d : D)
  | glb (i : Nat)
  | fld (e : E) (f : Nat)
  | bin (m : Bool) (op : Bop) (a b : E)
  | neg (a : E)
  | cmp (op : Cop) (a b : E)
  | chn (o1 o2 : Cop) (a b c : E)
  | isN (a : E) | notN (a : E) | isB (a : E) (b : Bool)
  | and (a b : E) | or (a b : E) | not (a : E)
  | ite (c : T) (a b : E)
  | tup (es : Es) | lst (m : Bool) (es : Es)
  | dct (m : Bool) (ks : Es) (vs : Es)
  | call (f : Nat) (es : Es)
  | make (c : Nat) (fz : Bool) (es : Es)
  | meth (m : Nat) (o : E) (es : Es)
  | bi (m : Bool) (b : Bi) (es : Es)
  | bm (m : Bool) (b : Bm) (o : E) (es : Es)
  | idx (a b : E)
  | sl (m : Bool) (a : E) (lo hi : Oe)
  | rev (m : Bool) (a : E)
  | lc (m : Bool) (own : List Nat) (src : Src) (tg : Tg) (t : Ot) (elt : E)
  | dc (m : Bool) (own : List Nat) (src : Src) (tg : Tg) (t : Ot) (key val : E)
  | frz (e : E)
inductive Es where
  | nil | cons (e : E) (es : Es)
inductive Oe where
  | none | some (e : E)
/-- tests -/
inductive T where
  | val (e : E) | and (a b : T) | or (a b : T) | not (a : T)
inductive Ot where
  | none | some (t : T)
/-- what is walked -/
inductive Src where
  | of (e : E) | rng1 (a : E) | rng2 (a b : E) | rng3 (a b c : E) | enum (s : Src) | zip (a b : E)
/-- targets -/
inductive Tg where
  | name (i : Nat) | fld (o : E) (f : Nat) | idx (o i : E) | tup (ts : Tgs)
inductive Tgs where
  | nil | cons (t : Tg) (ts : Tgs)
end
mutual
inductive S where
  | set (tg : Tg) (e : E)
  | par (is : List Nat) (es : Es)
  | aug (i : Nat) (op : Bop) (e : E)
  | augf (o : E) (f : Nat) (op : Bop) (e : E)
  | ife (c : T) (a b : Ss)
  | forr (tg : Tg) (src : Src) (body : Ss)
  | whil (c : T) (body : Ss)
  | ret (dr : List Nat) (e : E)
  | retN (dr : List Nat)
  | raise (c : Nat)
  | exp (e : E)
  | pass | brk | cnt | never
  | tryo (body : Ss) (c : Nat) (suite : Ss)
inductive Ss where
  | nil | cons (s : S) (ss : Ss)
end

/-! ### what it wants -/
/-- an exception: its class -/
structure Ex where
  c : Nat
abbrev DEnv := List (Option D)
def wipeE (env : DEnv) : List Nat → DEnv
  | [] => env
  | v :: vs => (wipeE env vs).set v none
abbrev DK1 := D → Mem → Prop
abbrev XK1 := Ex → Mem → Prop
/-- how defs are called -/
abbrev Calls := Nat → List D → Mem → DK1 → XK1 → Prop
/-- what is known of classes: a method's def, __init__'s def -/
structure G where
  mt : Nat → Nat → Option Nat
  ini : Nat → Option Nat
  sub : Nat → Nat → Bool
  fat : Nat → List Nat
  con : Nat → Option D
  cls : List Nat
/-- isinstance -/
def isiF (g : G) : Ity → D → Option Bool
  | _, .loc _ => none
  | .cls c, .ins k _ _ => if c ∈ g.cls ∧ k ∈ g.cls then some (decide (k = c)) else none
  | .cls c, _ => if c ∈ g.cls then some false else none
  | _, .ins k _ _ => if k ∈ g.cls then some false else none
  | .int, .int _ => some true
  | .int, .bl _ => some true
  | .bool, .bl _ => some true
  | .str, .str _ => some true
  | .tup, .tup _ => some true
  | .lst, .lst _ => some true
  | .dct, .dct _ _ => some true
  | _, .scr _ => none
  | _, _ => some false
/-- a new list that is to change gets an address; else the value as it is -/
def fin (m : Bool) (d : D) (M : Mem) (Q : DK1) : Prop := match m, d with
  | false, d => Q d M
  | true, .lst xs => ∀ a, M a = none → Q (.loc a) (M.set a (.lst xs))
  | true, .dct ks vs => ∀ a, M a = none → Q (.loc a) (M.set a (.dct ks vs))
  | true, _ => False
def lookF : List Nat → List D → Nat → Option D
  | f :: fs, v :: vs, q => if f = q then some v else lookF fs vs q
  | _, _, _ => none
def fldF (g : G) (d : D) (f : Nat) : Option D := match d with
  | .ins c fs vs => if f ∈ g.fat c then lookF fs vs f else none
  | _ => none
def clsF : D → Option Nat
  | .ins c _ _ => some c
  | _ => none
/-- a method of an instance, which has no field of that name -/
def mthF (g : G) (d : D) (m : Nat) : Option Nat := match d with
  | .ins c fs _ => if m ∈ fs then none else g.mt c m
  | _ => none
def strsF : List D → Option (List (List Nat))
  | [] => some []
  | .str c :: xs => (strsF xs).map fun r => c :: r
  | _ => none
def blsF : List D → Option (List Bool)
  | [] => some []
  | .bl c :: xs => (blsF xs).map fun r => c :: r
  | _ => none
def maxL : List Int → Int
  | [] => 0
  | [x] => x
  | x :: xs => let m := maxL xs; if x ≥ m then x else m
def minL : List Int → Int
  | [] => 0
  | [x] => x
  | x :: xs => let m := minL xs; if x ≤ m then x else m
/-- the signs of a number -/
def numS (i : Int) : List Nat := (toString i).toList.map Char.toNat
def rngL (a b : Int) : List D := (List.range (b - a).toNat).map fun i => D.int (a + (i : Nat))
def rngOk (a b : Int) : Prop := -(2 ^ 62) ≤ a ∧ a < 2 ^ 62 ∧ -(2 ^ 62) ≤ b ∧ b < 2 ^ 62 ∧ (b - a).toNat ≤ 2 ^ 24
instance (a b : Int) : Decidable (rngOk a b) := by
  unfold rngOk
  infer_instance
def one {α : Type} (ds : List D) (f : D → Option α) : Option α := match ds with
  | [x] => f x
  | _ => none
def two {α : Type} (ds : List D) (f : D → D → Option α) : Option α := match ds with
  | [x, y] => f x y
  | _ => none
def allF : D → Option D
  | .lst xs => (blsF xs).map fun bs => .bl (bs.all id)
  | _ => none
def anyF : D → Option D
  | .lst xs => (blsF xs).map fun bs => .bl (bs.any id)
  | _ => none
def tupleF : D → Option D
  | .lst xs => some (.tup xs)
  | .tup xs => some (.tup xs)
  | _ => none
def listF : D → Option D
  | .lst xs => some (.lst xs)
  | .tup xs => some (.lst xs)
  | .scr ns => some (.lst (ns.map .int))
  | .str cs => if cs.length ≤ lim then some (.lst (cs.map fun c => .str [c])) else none
  | _ => none
def intF : D → Option D
  | .int i => some (.int i)
  | _ => none
def min2F : D → D → Option D
  | .int i, .int j => some (.int (if j < i then j else i))
  | _, _ => none
def max2F : D → D → Option D
  | .int i, .int j => some (.int (if j > i then j else i))
  | _, _ => none
def maxlF : D → Option D
  | .lst xs => (intsF xs).bind fun is => if is = [] then none else some (.int (maxL is))
  | _ => none
def minlF : D → Option D
  | .lst xs => (intsF xs).bind fun is => if is = [] then none else some (.int (minL is))
  | _ => none
def sumF : D → Option D
  | .lst xs => (intsF xs).map fun is => .int is.sum
  | _ => none
def strF : D → Option D
  | .int i => if i.natAbs.log2 < 1920 then some (.str (numS i)) else none
  | _ => none
def absF : D → Option D
  | .int i => some (.int (if i < 0 then -i else i))
  | _ => none
def lrngF : D → D → Option D
  | .int a, .int b => if rngOk a b then some (.lst (rngL a b)) else none
  | _, _ => none
def isisF (g : G) : List Ity → D → Option Bool
  | [], _ => some false
  | t :: ts, x => match isiF g t x with
    | some true => some true
    | some false => isisF g ts x
    | none => none
/-- the values are read already (deref) -/
def biF (g : G) : Bi → List D → Option D
  | .len, ds => one ds fun x => (lenF x).map fun n => .int (n : Nat)
  | .all, ds => one ds allF
  | .any, ds => one ds anyF
  | .tuple, ds => one ds tupleF
  | .list, ds => one ds listF
  | .int, ds => one ds intF
  | .min2, ds => two ds min2F
  | .max2, ds => two ds max2F
  | .maxl, ds => one ds maxlF
  | .minl, ds => one ds minlF
  | .sum, ds => one ds sumF
  | .str, ds => one ds strF
  | .abs, ds => one ds absF
  | .sorted, _ => none
  | .lrng1, ds => one ds fun b => lrngF (.int 0) b
  | .lrng2, ds => two ds lrngF
  | .isi ts, ds => one ds fun x => (isisF g ts x).map .bl
def joinF : D → D → Option D
  | .str s, .lst xs => (strsF xs).bind fun ps => if (ps.map (·.length)).sum + ps.length * s.length ≤ 16777216 then some (.str (TL.joinL s ps)) else none
  | _, _ => none
def splitF : D → D → Option D
  | .str cs, .str ss => match ss with
    | [c] => if cs.length + 2 ≤ lim ∧ c < 128 then some (.lst ((TL.spl [c] 0 [] cs).map .str)) else none
    | _ => none
  | _, _ => none
def upperF : D → Option D
  | .str cs => match cs with
    | [c] => if 97 ≤ c ∧ c ≤ 122 then some (.str [c - 32]) else none
    | _ => none
  | _ => none
def getF : D → D → D → Option D
  | .dct ks vs, y, d => (keyF y).map fun k => (getK ks vs k).getD d
  | _, _, _ => none
/-- methods that change nothing: the receiver, the arguments -/
def bmF : Bm → D → List D → Option D
  | .join, o, ds => one ds (joinF o)
  | .split, o, ds => one ds (splitF o)
  | .upper, o, ds => match ds with
    | [] => upperF o
    | _ => none
  | .get, o, ds => two ds (getF o)
  | _, _, _ => none
def extF (xs : List D) : D → Option (D × List D)
  | .lst ys => if xs.length + ys.length ≤ lim then some (.non, xs ++ ys) else none
  | _ => none
def popF (xs : List D) : D → Option (D × List D)
  | .int i => if -(2 ^ 63) ≤ i ∧ i < 2 ^ 63 then (seqIndex? i xs.length).bind fun k => (xs[k]?).map fun y => (y, xs.eraseIdx k) else none
  | _ => none
/-- methods that change a list -/
def bmM : Bm → List D → List D → Option (D × List D)
  | .append, xs, ds => one ds fun y => if xs.length < lim then some (.non, xs ++ [y]) else none
  | .extend, xs, ds => one ds (extF xs)
  | .popAt, xs, ds => one ds (popF xs)
  | _, _, _ => none
def argF : Bm → Mem → D → D
  | .join, M, d => deref M d
  | .extend, M, d => deref M d
  | _, _, d => d
def lstAt (M : Mem) (a : Addr) : Option (List D) := match M a with
  | some (.lst xs) => some xs
  | _ => none
/-- may a list change while it is walked? what must stand at each turn -/
abbrev Guard := Mem → Prop
def itemsF : D → Option (List D)
  | .lst xs => some xs
  | .tup xs => some xs
  | .str cs => some (cs.map fun c => .str [c])
  | .scr ns => some (ns.map .int)
  | _ => none
def enumL (xs : List D) : List D := xs.zipIdx.map fun p => .tup [.int (p.2 : Nat), p.1]
def zipL (xs ys : List D) : List D := (xs.zip ys).map fun p => .tup [p.1, p.2]
def stepL (a c : Int) (n : Nat) : List D := (List.range n).map fun i => D.int (a + (i : Nat) * c)
def forLoop (gd : Guard) (turn : D → DEnv → Mem → (DEnv → Mem → Prop) → Prop) (nx : DEnv → Mem → Prop) : List D → DEnv → Mem → Prop
  | [], env, M => gd M ∧ nx env M
  | d :: ds, env, M => gd M ∧ turn d env M fun e m => forLoop gd turn nx ds e m
def lcLoop (gd : Guard) (turn : D → Mem → (Option D → Mem → Prop) → Prop) (Q : List D → Mem → Prop) : List D → List D → Mem → Prop
  | [], acc, M => gd M ∧ Q acc M
  | d :: ds, acc, M => gd M ∧ turn d M fun r m => match r with
    | some y => acc.length < lim ∧ lcLoop gd turn Q ds (acc ++ [y]) m
    | none => lcLoop gd turn Q ds acc m
def whLoop (turn : DEnv → Mem → (DEnv → Mem → Prop) → Prop) : Nat → DEnv → Mem → Prop
  | 0, _, _ => False
  | n + 1, env, M => turn env M fun e m => whLoop turn n e m
structure Post where
  nx : DEnv → Mem → Prop
  rt : DK1
  bk : DEnv → Mem → Prop
  ct : DEnv → Mem → Prop
  xc : Ex → DEnv → Mem → Prop
/-- the objects in a list are let go -/
def delL (M : Mem) : List D → Mem
  | [] => M
  | .loc a :: xs => delL (M.del a) xs
  | _ :: xs => delL M xs
/-- the objects at some names are let go -/
def dropE (env : DEnv) (M : Mem) : List Nat → Mem
  | [] => M
  | i :: is => match env[i]? with
    | some (some (.loc a)) => dropE env (M.del a) is
    | some (some (.lst xs)) => dropE env (delL M xs) is
    | _ => dropE env M is
/-- a thing that may change is made one that never will -/
def frzF (M : Mem) : D → Option (D × Mem)
  | .loc a => match M a with
    | some (.lst xs) => some (.lst xs, M.del a)
    | some (.ins c fs vs) => some (.ins c fs vs, M.del a)
    | _ => none
  | _ => none
def setF (fs : List Nat) (vs : List D) (f : Nat) (d : D) : List Nat × List D := match fs, vs with
  | g :: fs, v :: vs => if g = f then (g :: fs, d :: vs) else (g :: (setF fs vs f d).1, v :: (setF fs vs f d).2)
  | _, _ => ([f], [d])
/-- o.f = d -/
def putFld (g : G) (M : Mem) (o : D) (f : Nat) (d : D) : Option Mem := match o with
  | .loc a => match M a with
    | some (.ins c fs vs) => if f ∈ g.fat c ∧ fs.length < 1000 then some (M.set a (.ins c (setF fs vs f d).1 (setF fs vs f d).2)) else none
    | _ => none
  | _ => none
/-- o[i] = d -/
def putIdx (M : Mem) (o i d : D) : Option Mem := match o with
  | .loc a => match M a, i with
    | some (.lst xs), .int k => (ixN xs.length k).map fun j => M.set a (.lst (xs.set j d))
    | some (.dct ks vs), i => (keyF i).bind fun k => if ks.length < lim ∧ ks.Nodup then some (M.set a (.dct (putK ks vs k d).1 (putK ks vs k d).2)) else none
    | _, _ => none
  | _ => none

/-- of what type the receiver is -/
def bmT : Bm → D → Bool
  | .append, .lst _ => true
  | .extend, .lst _ => true
  | .popAt, .lst _ => true
  | .join, .str _ => true
  | .split, .str _ => true
  | .upper, .str _ => true
  | .get, .dct _ _ => true
  | _, _ => false
def bmW (m : Bool) (b : Bm) (d : D) (ds : List D) (M : Mem) (Q : DK1) : Prop := match b with
  | .append => match d with
    | .loc a => opt (lstAt M a) fun xs => opt (bmM b xs (ds.map fun y => argF b M y)) fun p => Q p.1 (M.set a (.lst p.2))
    | _ => False
  | .extend => match d with
    | .loc a => opt (lstAt M a) fun xs => opt (bmM b xs (ds.map fun y => argF b M y)) fun p => Q p.1 (M.set a (.lst p.2))
    | _ => False
  | .popAt => match d with
    | .loc a => opt (lstAt M a) fun xs => opt (bmM b xs (ds.map fun y => argF b M y)) fun p => Q p.1 (M.set a (.lst p.2))
    | _ => False
  | .get => opt (bmF .get (deref M d) ds) fun z => Q z M
  | b => opt (bmF b (deref M d) (ds.map fun y => argF b M y)) fun z => fin m z M Q
/-- what must stand while a thing is walked -/
def gdOf (M : Mem) : D → Guard
  | .loc a => fun m => m a = M a
  | _ => fun _ => True
/-- as many values as targets -/
def tgsFit : Tgs → List D → Bool
  | .nil, [] => true
  | .cons _ ts, _ :: ds => tgsFit ts ds
  | _, _ => false
section
variable (g : G) (cl : Calls)
mutual
def wpE : E → DEnv → Mem → DK1 → XK1 → Prop
  | .var i, env, M, Q, _ => opt (env[i]?.join) fun d => Q d M
  | .cst d, _, M, Q, _ => Q d M
  | .glb i, _, M, Q, _ => opt (g.con i) fun d => Q d M
  | .fld e f, env, M, Q, X => wpE e env M (fun d M1 => opt (fldF g (deref M1 d) f) fun v => Q v M1) X
  | .bin m op a b, env, M, Q, X => wpE a env M (fun x M1 => wpE b env M1 (fun y M2 => opt (binF op (deref M2 x) (deref M2 y)) fun z => fin m z M2 Q) X) X
  | .neg a, env, M, Q, X => wpE a env M (fun x M1 => match x with
    | .int i => Q (.int (-i)) M1
    | _ => False) X
  | .cmp op a b, env, M, Q, X => wpE a env M (fun x M1 => wpE b env M1 (fun y M2 => opt (cmpF op (deref M2 x) (deref M2 y)) fun z => Q (.bl z) M2) X) X
  | .chn o1 o2 a b c, env, M, Q, X => wpE a env M (fun x M1 => wpE b env M1 (fun y M2 => opt (cmpF o1 (deref M2 x) (deref M2 y)) fun z =>
      if z = true then wpE c env M2 (fun w M3 => opt (cmpF o2 (deref M3 y) (deref M3 w)) fun z => Q (.bl z) M3) X else Q (.bl false) M2) X) X
  | .isN a, env, M, Q, X => wpE a env M (fun x M1 => Q (.bl (match x with
    | .non => true
    | _ => false)) M1) X
  | .notN a, env, M, Q, X => wpE a env M (fun x M1 => Q (.bl (match x with
    | .non => false
    | _ => true)) M1) X
  | .isB a b, env, M, Q, X => wpE a env M (fun x M1 => Q (.bl (match x with
    | .bl c => c == b
    | _ => false)) M1) X
  | .and a b, env, M, Q, X => wpE a env M (fun x M1 => match x with
    | .bl true => wpE b env M1 Q X
    | .bl false => Q (.bl false) M1
    | _ => False) X
  | .or a b, env, M, Q, X => wpE a env M (fun x M1 => match x with
    | .bl true => Q (.bl true) M1
    | .bl false => wpE b env M1 Q X
    | _ => False) X
  | .not a, env, M, Q, X => wpE a env M (fun x M1 => match x with
    | .bl b => Q (.bl (!b)) M1
    | _ => False) X
  | .ite c a b, env, M, Q, X => wpT c env M (fun z M1 => if z = true then wpE a env M1 Q X else wpE b env M1 Q X) X
  | .tup es, env, M, Q, X => wpEs es env M (fun ds M1 => ds.length ≤ lim ∧ Q (.tup ds) M1) X
  | .lst m es, env, M, Q, X => wpEs es env M (fun ds M1 => ds.length ≤ lim ∧ fin m (.lst ds) M1 Q) X
  | .dct m ks vs, env, M, Q, X => match ks, vs with
    | .nil, .nil => fin m (.dct [] []) M Q
    | .cons k .nil, .cons v .nil => wpE k env M (fun x M1 => wpE v env M1 (fun y M2 => opt (keyF x) fun q => fin m (.dct [q] [y]) M2 Q) X) X
    | _, _ => False
  | .call f es, env, M, Q, X => wpEs es env M (fun ds M1 => cl f ds M1 Q X) X
  | .make c fz es, env, M, Q, X => wpEs es env M (fun ds M1 => ∀ a, M1 a = none → opt (g.ini c) fun f => cl f (.loc a :: ds) (M1.set a (.ins c [] [])) (fun v M2 => v = .non ∧
      match fz with
      | true => opt (frzF M2 (.loc a)) fun p => Q p.1 p.2
      | false => Q (.loc a) M2) X) X
  | .meth m o es, env, M, Q, X => wpE o env M (fun d M1 => opt (mthF g (deref M1 d) m) fun f => wpEs es env M1 (fun ds M2 => cl f (d :: ds) M2 Q X) X) X
  | .bi m b es, env, M, Q, X => wpEs es env M (fun ds M1 => opt (biF g b (ds.map (deref M1))) fun z => fin m z M1 Q) X
  | .bm m b o es, env, M, Q, X => wpE o env M (fun d M1 => bmT b (deref M1 d) = true ∧ wpEs es env M1 (fun ds M2 => bmW m b d ds M2 Q) X) X
  | .idx a b, env, M, Q, X => wpE a env M (fun x M1 => wpE b env M1 (fun y M2 => opt (idxF (deref M2 x) y) fun z => Q z M2) X) X
  | .sl m a lo hi, env, M, Q, X => wpE a env M (fun x M1 => wpO lo env M1 (fun l M2 => wpO hi env M2 (fun h M3 => opt (slF (deref M3 x) l h) fun z => fin m z M3 Q) X) X) X
  | .rev m a, env, M, Q, X => wpE a env M (fun x M1 => opt (revF (deref M1 x)) fun z => fin m z M1 Q) X
  | .lc m own src tg t elt, env, M, Q, X => wpSrc src env M (fun items gd M1 => lcLoop gd (fun d M2 k => wpTg tg d (wipeE env own) M2 (fun env' M3 =>
      wpTO t env' M3 (fun z M4 => if z = true then wpE elt env' M4 (fun y M5 => k (some y) M5) (fun _ _ => False) else k none M4) (fun _ _ => False)) (fun _ _ => False)) (fun acc M2 => fin m (.lst acc) M2 Q) items [] M1) X
  | .dc _ _ _ _ _ _ _, _, _, _, _ => False
  | .frz e, env, M, Q, X => wpE e env M (fun d M1 => opt (frzF M1 d) fun p => Q p.1 p.2) X
def wpT : T → DEnv → Mem → (Bool → Mem → Prop) → XK1 → Prop
  | .val e, env, M, Q, X => wpE e env M (fun d M1 => opt (truthF (deref M1 d)) fun z => Q z M1) X
  | .and a b, env, M, Q, X => wpT a env M (fun z M1 => if z = true then wpT b env M1 Q X else Q false M1) X
  | .or a b, env, M, Q, X => wpT a env M (fun z M1 => if z = true then Q true M1 else wpT b env M1 Q X) X
  | .not a, env, M, Q, X => wpT a env M (fun z M1 => Q (!z) M1) X
def wpTO : Ot → DEnv → Mem → (Bool → Mem → Prop) → XK1 → Prop
  | .none, _, M, Q, _ => Q true M
  | .some e, env, M, Q, X => wpT e env M Q X
def wpEs : Es → DEnv → Mem → (List D → Mem → Prop) → XK1 → Prop
  | .nil, _, M, Q, _ => Q [] M
  | .cons e es, env, M, Q, X => wpE e env M (fun d M1 => wpEs es env M1 (fun ds M2 => Q (d :: ds) M2) X) X
def wpO : Oe → DEnv → Mem → (Option Int → Mem → Prop) → XK1 → Prop
  | .none, _, M, Q, _ => Q none M
  | .some e, env, M, Q, X => wpE e env M (fun d M1 => match d with
    | .int i => Q (some i) M1
    | _ => False) X
def wpSrc : Src → DEnv → Mem → (List D → Guard → Mem → Prop) → XK1 → Prop
  | .of e, env, M, Q, X => wpE e env M (fun d M1 => opt (itemsF (deref M1 d)) fun items => Q items (gdOf M1 d) M1) X
  | .rng1 a, env, M, Q, X => wpE a env M (fun x M1 => match x with
    | .int j => -(2 ^ 62) ≤ j ∧ j < 2 ^ 62 ∧ Q (rngL 0 j) (fun _ => True) M1
    | _ => False) X
  | .rng2 a b, env, M, Q, X => wpE a env M (fun x M1 => wpE b env M1 (fun y M2 => match x, y with
    | .int i, .int j => (-(2 ^ 62) ≤ i ∧ i < 2 ^ 62 ∧ -(2 ^ 62) ≤ j ∧ j < 2 ^ 62) ∧ Q (rngL i j) (fun _ => True) M2
    | _, _ => False) X) X
  | .rng3 a b c, env, M, Q, X => wpE a env M (fun x M1 => wpE b env M1 (fun y M2 => wpE c env M2 (fun z M3 => match x, y, z with
    | .int i, .int j, .int (-1) => (-(2 ^ 62) ≤ i ∧ i < 2 ^ 62 ∧ -(2 ^ 62) ≤ j ∧ j < 2 ^ 62) ∧ Q (stepL i (-1) (i - j).toNat) (fun _ => True) M3
    | _, _, _ => False) X) X) X
  | .enum s, env, M, Q, X => wpSrc s env M (fun items gd M1 => Q (enumL items) gd M1) X
  | .zip a b, env, M, Q, X => wpE a env M (fun x M1 => wpE b env M1 (fun y M2 => opt (itemsF (deref M2 x)) fun xs => opt (itemsF (deref M2 y)) fun ys => Q (zipL xs ys) (fun m => gdOf M2 x m ∧ gdOf M2 y m) M2) X) X
def wpTg : Tg → D → DEnv → Mem → (DEnv → Mem → Prop) → XK1 → Prop
  | .name i, d, env, M, Q, _ => Q (env.set i (some d)) M
  | .fld o f, d, env, M, Q, _ => wpE o env M (fun x M1 => opt (putFld g M1 x f d) fun M2 => Q env M2) (fun _ _ => False)
  | .idx o i, d, env, M, Q, _ => wpE o env M (fun x M1 => wpE i env M1 (fun y M2 => opt (putIdx M2 x y d) fun M3 => Q env M3) (fun _ _ => False)) (fun _ _ => False)
  | .tup ts, d, env, M, Q, X => match d with
    | .tup ds => tgsFit ts ds = true ∧ wpTgs ts ds env M Q X
    | _ => False
def wpTgs : Tgs → List D → DEnv → Mem → (DEnv → Mem → Prop) → XK1 → Prop
  | .nil, ds, env, M, Q, _ => ds = [] ∧ Q env M
  | .cons t ts, ds, env, M, Q, X => match ds with
    | d :: ds => wpTg t d env M (fun e m => wpTgs ts ds e m Q X) X
    | [] => False
end
mutual
def wpS : S → DEnv → Mem → Post → Prop
  | .set tg e, env, M, P => wpE g cl e env M (fun d M1 => wpTg g cl tg d env M1 P.nx (fun x m => P.xc x env m)) (fun x m => P.xc x env m)
  | .par is es, env, M, P => wpEs g cl es env M (fun ds M1 => is.length = ds.length ∧ P.nx ((is.zip ds).foldl (fun e p => e.set p.1 (some p.2)) env) M1) (fun x m => P.xc x env m)
  | .aug i op e, env, M, P => opt (env[i]?.join) fun x => wpE g cl e env M (fun y M1 => opt (augF op x y) fun z => P.nx (env.set i (some z)) M1) (fun x m => P.xc x env m)
  | .augf o f op e, env, M, P => wpE g cl o env M (fun x M1 => opt (fldF g (deref M1 x) f) fun v => wpE g cl e env M1 (fun y M2 => clsF (deref M1 x) = clsF (deref M2 x) ∧ opt (augF op v y) fun z => opt (putFld g M2 x f z) fun M3 => P.nx env M3) (fun x m => P.xc x env m)) (fun x m => P.xc x env m)
  | .ife c a b, env, M, P => wpT g cl c env M (fun z M1 => if z = true then wpSs a env M1 P else wpSs b env M1 P) (fun x m => P.xc x env m)
  | .forr tg src body, env, M, P => wpSrc g cl src env M (fun items gd M1 => forLoop gd (fun d e m k => wpTg g cl tg d e m (fun e' m' => wpSs body e' m' ⟨k, P.rt, P.nx, k, P.xc⟩) (fun x m => P.xc x e m)) P.nx items env M1) (fun x m => P.xc x env m)
  | .whil c body, env, M, P => ∃ n, whLoop (fun e m k => wpT g cl c e m (fun z m1 => if z = true then wpSs body e m1 ⟨k, P.rt, P.nx, k, P.xc⟩ else P.nx e m1) (fun x m => P.xc x e m)) n env M
  | .ret dr e, env, M, P => wpE g cl e env M (fun d M1 => P.rt d (dropE env M1 dr)) (fun x m => P.xc x env m)
  | .retN dr, env, M, P => P.rt .non (dropE env M dr)
  | .raise c, env, M, P => P.xc ⟨c⟩ env M
  | .exp e, env, M, P => wpE g cl e env M (fun _ M1 => P.nx env M1) (fun x m => P.xc x env m)
  | .pass, env, M, P => P.nx env M
  | .brk, env, M, P => P.bk env M
  | .cnt, env, M, P => P.ct env M
  | .never, _, _, _ => False
  | .tryo body c suite, env, M, P => wpSs body env M ⟨P.nx, P.rt, P.bk, P.ct, fun x e m => g.sub x.c x.c = true ∧ (if g.sub x.c c = true then wpSs suite e m ⟨P.nx, P.rt, P.bk, P.ct, fun _ _ _ => False⟩ else P.xc x e m)⟩
def wpSs : Ss → DEnv → Mem → Post → Prop
  | .nil, env, M, P => P.nx env M
  | .cons s ss, env, M, P => wpS s env M ⟨fun e m => wpSs ss e m P, P.rt, P.bk, P.ct, P.xc⟩
end
end
/-- a def: how many names, its body -/
structure Fd where
  np : Nat
  nn : Nat
  body : Ss
  dr : List Nat
def startE (n : Nat) (ds : List D) : DEnv := ds.map some ++ List.replicate (n - ds.length) none
/-- a call, at most so deep -/
def wpF (g : G) (fs : Nat → Option Fd) : Nat → Calls
  | 0, _, _, _, _, _ => False
  | n + 1, f, ds, M, Q, X => opt (fs f) fun d => ds.length = d.np ∧ wpSs g (wpF g fs n) d.body (startE d.nn ds) M ⟨fun e m => Q .non (dropE e m d.dr), Q, fun _ _ => False, fun _ _ => False, fun x _ m => X x m⟩
end Lw

set_option Elab.async false
set_option linter.all false
set_option maxRecDepth 100000
/-! Lw2: how trees lie in the hand layer's heap. -/
namespace Lw
open PySem L2

/-- names by number -/
structure Nm where
  nm : Nat → Str
  /-- the defs by number: a global's name; a class's and a method's -/
  fn : Nat → Str × Option Str
  /-- constants of the module by number -/
  cn : Nat → Str
def DK.key : DK → Key
  | .i n => .inl n
  | .s cs => .inr ⟨cs.toArray⟩
theorem DK.key_inj {a b : DK} (h : a.key = b.key) : a = b := by
  cases a with
  | i n =>
    cases b with
    | i m =>
      have e : n = m := Sum.inl.inj h
      rw [e]
    | s m => cases h
  | s n =>
    cases b with
    | i m => cases h
    | s m =>
      have e : (⟨n.toArray⟩ : Str) = ⟨m.toArray⟩ := Sum.inr.inj h
      injection e with e
      have e2 : n = m := by simpa using congrArg Array.toList e
      rw [e2]

section
variable (K : PySem.W.Frag) (n : Nm)
/-- the class named so -/
abbrev cad (c : Nat) : Addr := He.ga K (n.nm c)
mutual
def Rep (Z : Hp) : D → V → Prop
  | .non, v => v = .non
  | .bl b, v => v = .bl b
  | .int i, v => v = .int i
  | .str cs, v => v = .str ⟨cs.toArray⟩
  | .tup ds, v => ∃ a vs, v = .ref a ∧ SqT K Z a vs ∧ Reps Z ds vs
  | .lst ds, v => ∃ a vs, v = .ref a ∧ Z a = some (.lst vs) ∧ Reps Z ds vs
  | .ins c fs ds, v => ∃ a dx ws, v = .ref a ∧ Z a = some (.ins (cad K n c) dx ws) ∧ ws.map (·.1) = fs.map n.nm ∧ Reps Z ds (ws.map (·.2))
  | .dct ks ds, v => ∃ a ws, v = .ref a ∧ Z a = some (.dK ws) ∧ ws.map (·.1) = ks.map DK.key ∧ Reps Z ds (ws.map (·.2))
  | .loc a, v => v = .ref a
  | .scr ns, v => ∃ a, v = .ref a ∧ SqL K Z a (ns.map V.int)
def Reps (Z : Hp) : List D → List V → Prop
  | [], vs => vs = []
  | d :: ds, vs => ∃ v ws, vs = v :: ws ∧ Rep Z d v ∧ Reps Z ds ws
end
/-- a thing that is being made: noted in Z, of no use to values -/
def noOb : Obj := { cls := .none, data := .fields #[] }
def mkg (u : HO) : HO := .frz noOb (.frz noOb u)
def isMk : HO → Bool
  | .frz _ (.frz _ _) => true
  | _ => false
def unmk : HO → HO
  | .frz _ (.frz _ u) => u
  | u => u
theorem unmk_of {u : HO} (h : isMk u = false) : unmk u = u := by
  unfold unmk
  split
  · cases h
  · rfl
/-- all but what is being made stands as it was -/
def SameU (Z Z' : Hp) : Prop := ∀ b u, Z b = some u → isMk u = false → Z' b = some u
theorem same_u {Z Z' : Hp} (s : Same Z Z') : SameU Z Z' := fun b u e _ => s b u e
theorem sameU_T {Z Z' : Hp} (s : SameU Z Z') {a : Addr} {vs : List V} (h : SqT K Z a vs) : SqT K Z' a vs := by
  rcases h with (h | ⟨o, h⟩) | h
  · exact .inl (.inl (s _ _ h rfl))
  · exact .inl (.inr ⟨o, s _ _ h rfl⟩)
  · exact .inr h
theorem sameU_L {Z Z' : Hp} (s : SameU Z Z') {a : Addr} {vs : List V} (h : SqL K Z a vs) : SqL K Z' a vs := by
  rcases h with (h | ⟨o, h⟩) | h
  · exact .inl (.inl (s _ _ h rfl))
  · exact .inl (.inr ⟨o, s _ _ h rfl⟩)
  · exact .inr h
mutual
theorem Rep.monoU {Z Z' : Hp} (s : SameU Z Z') : ∀ (d : D) {v : V}, Rep K n Z d v → Rep K n Z' d v
  | .non, _, h => h
  | .bl _, _, h => h
  | .int _, _, h => h
  | .str _, _, h => h
  | .tup ds, v, h => by
    unfold Rep at h ⊢
    obtain ⟨a, vs, e, h1, h2⟩ := h
    exact ⟨a, vs, e, sameU_T K s h1, Reps.monoU s ds h2⟩
  | .lst ds, v, h => by
    unfold Rep at h ⊢
    obtain ⟨a, vs, e, h1, h2⟩ := h
    exact ⟨a, vs, e, s _ _ h1 rfl, Reps.monoU s ds h2⟩
  | .ins c fs ds, v, h => by
    unfold Rep at h ⊢
    obtain ⟨a, dx, ws, e, h1, h2, h3⟩ := h
    exact ⟨a, dx, ws, e, s _ _ h1 rfl, h2, Reps.monoU s ds h3⟩
  | .dct ks ds, v, h => by
    unfold Rep at h ⊢
    obtain ⟨a, ws, e, h1, h2, h3⟩ := h
    exact ⟨a, ws, e, s _ _ h1 rfl, h2, Reps.monoU s ds h3⟩
  | .loc _, _, h => h
  | .scr ns, v, h => by
    unfold Rep at h ⊢
    obtain ⟨a, e, h1⟩ := h
    exact ⟨a, e, sameU_L K s h1⟩
theorem Reps.monoU {Z Z' : Hp} (s : SameU Z Z') : ∀ (ds : List D) {vs : List V}, Reps K n Z ds vs → Reps K n Z' ds vs
  | [], _, h => h
  | d :: ds, vs, h => by
    unfold Reps at h ⊢
    obtain ⟨v, ws, e, h1, h2⟩ := h
    exact ⟨v, ws, e, Rep.monoU s d h1, Reps.monoU s ds h2⟩
end
theorem Rep.mono {Z Z' : Hp} (s : Same Z Z') (d : D) {v : V} (h : Rep K n Z d v) : Rep K n Z' d v := Rep.monoU K n (same_u s) d h
theorem Reps.mono {Z Z' : Hp} (s : Same Z Z') (ds : List D) {vs : List V} (h : Reps K n Z ds vs) : Reps K n Z' ds vs := Reps.monoU K n (same_u s) ds h
/-- how a thing that may change lies at a -/
def RepO (Z H : Hp) (a : Addr) : MO → Prop
  | .lst ds => ∃ vs, H a = some (.lst vs) ∧ Reps K n Z ds vs
  | .ins c fs ds => ∃ dx ws, H a = some (.ins (cad K n c) dx ws) ∧ ws.map (·.1) = fs.map n.nm ∧ Reps K n Z ds (ws.map (·.2))
  | .dct ks ds => ∃ ws, H a = some (.dK ws) ∧ ws.map (·.1) = ks.map DK.key ∧ Reps K n Z ds (ws.map (·.2))
/-- Z: what never changes; M: what may -/
structure Rel (Z : Hp) (M : Mem) (H : Hp) : Prop where
  sub : ∀ a o, Z a = some o → H a = some (unmk o)
  may : ∀ a o, M a = some o → Z a = none ∧ RepO K n Z H a o
/-- the names' values -/
structure ERel (Z : Hp) (env : DEnv) (σ : List (Option V)) : Prop where
  len : env.length = σ.length
  val : ∀ (i : Nat) (d : D), env[i]? = some (some d) → ∃ v, σ[i]? = some (some v) ∧ Rep K n Z d v
end

section
variable {K : PySem.W.Frag} {n : Nm} {Z Z' H H' : Hp} {M : Mem} {env : DEnv} {σ : List (Option V)} {a : Addr}
theorem RepO.mono (s : SameU Z Z') (hh : H' a = H a) {o : MO} (h : RepO K n Z H a o) : RepO K n Z' H' a o := by
  cases o with
  | lst ds =>
    obtain ⟨vs, h1, h2⟩ := h
    exact ⟨vs, hh.trans h1, Reps.monoU K n s ds h2⟩
  | ins c fs ds =>
    obtain ⟨dx, ws, h1, h2, h3⟩ := h
    exact ⟨dx, ws, hh.trans h1, h2, Reps.monoU K n s ds h3⟩
  | dct ks ds =>
    obtain ⟨ws, h1, h2, h3⟩ := h
    exact ⟨ws, hh.trans h1, h2, Reps.monoU K n s ds h3⟩
theorem RepO.here {o : MO} (h : RepO K n Z H a o) : ∃ u, H a = some u := by
  cases o with
  | lst ds =>
    obtain ⟨vs, h1, h2⟩ := h
    exact ⟨_, h1⟩
  | ins c fs ds =>
    obtain ⟨dx, ws, h1, _⟩ := h
    exact ⟨_, h1⟩
  | dct ks ds =>
    obtain ⟨ws, h1, _⟩ := h
    exact ⟨_, h1⟩
theorem Rel.free (R : Rel K n Z M H) (h : H a = none) : Z a = none := by
  cases e : Z a with
  | none => rfl
  | some o =>
    have q := R.sub a o e
    rw [h] at q
    cases q
theorem Rel.fresh (R : Rel K n Z M H) (h : H a = none) : Z a = none ∧ M a = none := by
  refine ⟨R.free h, ?_⟩
  cases e : M a with
  | none => rfl
  | some o =>
    obtain ⟨u, hu⟩ := (R.may a o e).2.here
    rw [h] at hu
    cases hu
theorem same_upd {Z : Hp} {a : Addr} {o : HO} (h : Z a = none) : Same Z (upd Z a o) := fun b u e => by
  rw [upd_ne (ne_of_none e h)]
  exact e
/-- a new thing that never changes -/
theorem Rel.frozen (R : Rel K n Z M H) {o : HO} (h : H a = none) (ho : isMk o = false := by rfl) : Rel K n (upd Z a o) M (upd H a o) := by
  obtain ⟨hz, hm⟩ := R.fresh h
  refine ⟨fun b u e => ?_, fun b u e => ?_⟩
  · by_cases q : b = a
    · subst q
      rw [upd_same] at e ⊢
      cases e
      rw [unmk_of ho]
    · rw [upd_ne q] at e ⊢
      exact R.sub b u e
  · have q : b ≠ a := Mem.ne_of_none e hm
    refine ⟨by rw [upd_ne q]; exact (R.may b u e).1, RepO.mono (same_u (same_upd hz)) (upd_ne q) (R.may b u e).2⟩
/-- a new thing of no use -/
theorem Rel.junk (R : Rel K n Z M H) {o : HO} (h : H a = none) : Rel K n Z M (upd H a o) := by
  obtain ⟨hz, hm⟩ := R.fresh h
  refine ⟨fun b u e => ?_, fun b u e => ?_⟩
  · have q : b ≠ a := ne_of_none e hz
    rw [upd_ne q]
    exact R.sub b u e
  · have q : b ≠ a := Mem.ne_of_none e hm
    exact ⟨(R.may b u e).1, RepO.mono (same_u (Same.refl Z)) (upd_ne q) (R.may b u e).2⟩
/-- a thing that may change stands at a now: it was new, or could be changed -/
theorem Rel.put (R : Rel K n Z M H) {o : HO} {u : MO} (hz : Z a = none) (h : RepO K n Z (upd H a o) a u) : Rel K n Z (M.set a u) (upd H a o) := by
  refine ⟨fun b w e => ?_, fun b w e => ?_⟩
  · have q : b ≠ a := ne_of_none e hz
    rw [upd_ne q]
    exact R.sub b w e
  · by_cases q : b = a
    · subst q
      rw [Mem.set_same] at e
      cases e
      exact ⟨hz, h⟩
    · rw [Mem.set_ne q] at e
      exact ⟨(R.may b w e).1, RepO.mono (same_u (Same.refl Z)) (upd_ne q) (R.may b w e).2⟩
/-- it is let go -/
theorem Rel.drop (R : Rel K n Z M H) (a : Addr) : Rel K n Z (M.del a) H := by
  refine ⟨R.sub, fun b w e => ?_⟩
  by_cases q : b = a
  · subst q
    rw [Mem.del_same] at e
    cases e
  · rw [Mem.del_ne q] at e
    exact R.may b w e
/-- it never changes any more -/
theorem Rel.freeze (R : Rel K n Z M H) {u : MO} {o : HO} (hm : M a = some u) (ho : H a = some o) (hk : isMk o = false := by rfl) : Rel K n (upd Z a o) (M.del a) H := by
  have hz := (R.may a u hm).1
  refine ⟨fun b w e => ?_, fun b w e => ?_⟩
  · by_cases q : b = a
    · subst q
      rw [upd_same] at e
      cases e
      rw [unmk_of hk]
      exact ho
    · rw [upd_ne q] at e
      exact R.sub b w e
  · by_cases q : b = a
    · subst q
      rw [Mem.del_same] at e
      cases e
    · rw [Mem.del_ne q] at e
      refine ⟨by rw [upd_ne q]; exact (R.may b w e).1, RepO.mono (same_u (same_upd hz)) rfl (R.may b w e).2⟩
/-- a thing that is being made -/
theorem Rel.guard (R : Rel K n Z M H) {u : HO} (h : H a = none) : Rel K n (upd Z a (mkg u)) M (upd H a u) := by
  obtain ⟨hz, hm⟩ := R.fresh h
  refine ⟨fun b w e => ?_, fun b w e => ?_⟩
  · by_cases q : b = a
    · subst q
      rw [upd_same] at e ⊢
      cases e
      rfl
    · rw [upd_ne q] at e ⊢
      exact R.sub b w e
  · have q : b ≠ a := Mem.ne_of_none e hm
    exact ⟨by rw [upd_ne q]; exact (R.may b w e).1, RepO.mono (same_u (same_upd hz)) (upd_ne q) (R.may b w e).2⟩
theorem Rel.guarded (R : Rel K n Z M H) {u : HO} (h : Z a = some (mkg u)) : H a = some u := R.sub _ _ h
theorem sameU_mkg {u : HO} {o : HO} (h : Z a = some (mkg u)) : SameU Z (upd Z a o) := fun b w e q => by
  by_cases z : b = a
  · subst z
    rw [h] at e
    cases e
    cases q
  · rw [upd_ne z]
    exact e
theorem Rel.not_mk (R : Rel K n Z M H) {u : HO} (h : Z a = some u) : M a = none := by
  cases e : M a with
  | none => rfl
  | some o =>
    rw [(R.may a o e).1] at h
    cases h
/-- it goes on being made -/
theorem Rel.reguard (R : Rel K n Z M H) {u w : HO} (h : Z a = some (mkg u)) : Rel K n (upd Z a (mkg w)) M (upd H a w) := by
  have hm := R.not_mk h
  refine ⟨fun b t e => ?_, fun b t e => ?_⟩
  · by_cases q : b = a
    · subst q
      rw [upd_same] at e ⊢
      cases e
      rfl
    · rw [upd_ne q] at e ⊢
      exact R.sub b t e
  · have q : b ≠ a := Mem.ne_of_none e hm
    exact ⟨by rw [upd_ne q]; exact (R.may b t e).1, RepO.mono (sameU_mkg h) (upd_ne q) (R.may b t e).2⟩
/-- it is made, and never changes -/
theorem Rel.made (R : Rel K n Z M H) {u : HO} (h : Z a = some (mkg u)) (hu : isMk u = false := by rfl) : Rel K n (upd Z a u) M H := by
  have hm := R.not_mk h
  refine ⟨fun b t e => ?_, fun b t e => ?_⟩
  · by_cases q : b = a
    · subst q
      rw [upd_same] at e
      cases e
      rw [unmk_of hu]
      exact R.guarded h
    · rw [upd_ne q] at e
      exact R.sub b t e
  · have q : b ≠ a := Mem.ne_of_none e hm
    exact ⟨by rw [upd_ne q]; exact (R.may b t e).1, RepO.mono (sameU_mkg h) rfl (R.may b t e).2⟩
def hdel (Z : Hp) (a : Addr) : Hp := fun b => if b = a then none else Z b
theorem hdel_ne {b : Addr} (h : b ≠ a) : hdel Z a b = Z b := by
  unfold hdel
  rw [if_neg h]
theorem hdel_same : hdel Z a a = none := by
  unfold hdel
  rw [if_pos rfl]
theorem sameU_del {u : HO} (h : Z a = some (mkg u)) : SameU Z (hdel Z a) := fun b w e q => by
  by_cases z : b = a
  · subst z
    rw [h] at e
    cases e
    cases q
  · rw [hdel_ne z]
    exact e
/-- it is made, and may change -/
theorem Rel.madeMut (R : Rel K n Z M H) {u : HO} {o : MO} (h : Z a = some (mkg u)) (ro : RepO K n Z H a o) : Rel K n (hdel Z a) (M.set a o) H := by
  have hm := R.not_mk h
  refine ⟨fun b t e => ?_, fun b t e => ?_⟩
  · by_cases q : b = a
    · subst q
      rw [hdel_same] at e
      cases e
    · rw [hdel_ne q] at e
      exact R.sub b t e
  · by_cases q : b = a
    · subst q
      rw [Mem.set_same] at e
      cases e
      exact ⟨hdel_same, RepO.mono (sameU_del h) rfl ro⟩
    · rw [Mem.set_ne q] at e
      exact ⟨by rw [hdel_ne q]; exact (R.may b t e).1, RepO.mono (sameU_del h) rfl (R.may b t e).2⟩
theorem same_guard {Z0 : Hp} (s : Same Z0 Z) (h : Z0 a = none) {o : HO} : Same Z0 (upd Z a o) := fun b u e => by
  rw [upd_ne (ne_of_none e h)]
  exact s b u e
theorem same_hdel {Z0 : Hp} (s : Same Z0 Z) (h : Z0 a = none) : Same Z0 (hdel Z a) := fun b u e => by
  rw [hdel_ne (ne_of_none e h)]
  exact s b u e
theorem ERel.mono (s : Same Z Z') (e : ERel K n Z env σ) : ERel K n Z' env σ := ⟨e.len, fun i d h => by
  obtain ⟨v, h1, h2⟩ := e.val i d h
  exact ⟨v, h1, Rep.mono K n s d h2⟩⟩
theorem ERel.set (e : ERel K n Z env σ) {i : Nat} {d : D} {v : V} (h : Rep K n Z d v) : ERel K n Z (env.set i (some d)) (σ.set i (some v)) := by
  refine ⟨by rw [List.length_set, List.length_set]; exact e.len, fun j c hj => ?_⟩
  by_cases q : i = j
  · subst q
    by_cases l : i < env.length
    · rw [List.getElem?_set_self l] at hj
      cases hj
      exact ⟨v, List.getElem?_set_self (by rw [← e.len]; exact l), h⟩
    · rw [List.getElem?_eq_none (by rw [List.length_set]; omega)] at hj
      cases hj
  · rw [List.getElem?_set_ne q] at hj
    rw [List.getElem?_set_ne q]
    exact e.val j c hj
theorem ERel.wipe (e : ERel K n Z env σ) : ∀ vs : List Nat, ERel K n Z (wipeE env vs) (wipe σ vs)
  | [] => e
  | v :: vs => by
    have ih := ERel.wipe e vs
    unfold wipeE L2.wipe
    refine ⟨by rw [List.length_set, List.length_set]; exact ih.len, fun j c hj => ?_⟩
    by_cases q : v = j
    · subst q
      by_cases l : v < (wipeE env vs).length
      · rw [List.getElem?_set_self l] at hj
        cases hj
      · rw [List.getElem?_eq_none (by rw [List.length_set]; omega)] at hj
        cases hj
    · rw [List.getElem?_set_ne q] at hj
      rw [List.getElem?_set_ne q]
      exact ih.val j c hj
theorem Reps.length : ∀ {ds : List D} {vs : List V}, Reps K n Z ds vs → vs.length = ds.length
  | [], _, h => by
    unfold Reps at h
    rw [h] <;> rfl
  | d :: ds, _, h => by
    unfold Reps at h
    obtain ⟨v, ws, e, _, h2⟩ := h
    rw [e, List.length_cons, List.length_cons, Reps.length h2]
theorem Reps.get : ∀ {ds : List D} {vs : List V} {i : Nat} {d : D}, Reps K n Z ds vs → ds[i]? = some d → ∃ v, vs[i]? = some v ∧ Rep K n Z d v
  | [], _, _, _, _, e => by simp at e
  | c :: ds, _, 0, d, h, e => by
    unfold Reps at h
    obtain ⟨v, ws, ev, h1, _⟩ := h
    simp at e
    subst e
    exact ⟨v, by rw [ev]; rfl, h1⟩
  | c :: ds, _, i + 1, d, h, e => by
    unfold Reps at h
    obtain ⟨v, ws, ev, _, h2⟩ := h
    obtain ⟨u, h3, h4⟩ := Reps.get (i := i) h2 (by simpa using e)
    exact ⟨u, by rw [ev]; simpa using h3, h4⟩
theorem Reps.nil : Reps K n Z [] [] := by
  unfold Reps
  rfl
theorem Reps.cons {d : D} {ds : List D} {v : V} {vs : List V} (h : Rep K n Z d v) (hs : Reps K n Z ds vs) : Reps K n Z (d :: ds) (v :: vs) := by
  unfold Reps
  exact ⟨v, vs, rfl, h, hs⟩
theorem Reps.append : ∀ {ds es : List D} {vs ws : List V}, Reps K n Z ds vs → Reps K n Z es ws → Reps K n Z (ds ++ es) (vs ++ ws)
  | [], _, _, _, h, k => by
    unfold Reps at h
    subst h
    exact k
  | d :: ds, _, _, _, h, k => by
    unfold Reps at h
    obtain ⟨v, us, e, h1, h2⟩ := h
    subst e
    exact Reps.cons h1 (Reps.append h2 k)
theorem Reps.one {d : D} {v : V} (h : Rep K n Z d v) : Reps K n Z [d] [v] := Reps.cons h Reps.nil
theorem Reps.take : ∀ {ds : List D} {vs : List V} (k : Nat), Reps K n Z ds vs → Reps K n Z (ds.take k) (vs.take k)
  | _, _, 0, _ => by
    rw [List.take_zero, List.take_zero]
    exact Reps.nil
  | [], _, k + 1, h => by
    unfold Reps at h
    subst h
    exact Reps.nil
  | d :: ds, _, k + 1, h => by
    unfold Reps at h
    obtain ⟨v, us, e, h1, h2⟩ := h
    subst e
    exact Reps.cons h1 (Reps.take k h2)
theorem Reps.drop : ∀ {ds : List D} {vs : List V} (k : Nat), Reps K n Z ds vs → Reps K n Z (ds.drop k) (vs.drop k)
  | _, _, 0, h => h
  | [], _, k + 1, h => by
    unfold Reps at h
    subst h
    exact Reps.nil
  | d :: ds, _, k + 1, h => by
    unfold Reps at h
    obtain ⟨v, us, e, h1, h2⟩ := h
    subst e
    exact Reps.drop k h2
theorem Reps.set : ∀ {ds : List D} {vs : List V} (i : Nat) {d : D} {v : V}, Reps K n Z ds vs → Rep K n Z d v → Reps K n Z (ds.set i d) (vs.set i v)
  | [], _, _, _, _, h, _ => by
    unfold Reps at h
    subst h
    exact Reps.nil
  | c :: ds, _, 0, _, _, h, r => by
    unfold Reps at h
    obtain ⟨v, us, e, h1, h2⟩ := h
    subst e
    exact Reps.cons r h2
  | c :: ds, _, i + 1, _, _, h, r => by
    unfold Reps at h
    obtain ⟨v, us, e, h1, h2⟩ := h
    subst e
    exact Reps.cons h1 (Reps.set i h2 r)
theorem Reps.eraseIdx : ∀ {ds : List D} {vs : List V} (i : Nat), Reps K n Z ds vs → Reps K n Z (ds.eraseIdx i) (vs.eraseIdx i)
  | [], _, _, h => by
    unfold Reps at h
    subst h
    exact Reps.nil
  | c :: ds, _, 0, h => by
    unfold Reps at h
    obtain ⟨v, us, e, h1, h2⟩ := h
    subst e
    exact h2
  | c :: ds, _, i + 1, h => by
    unfold Reps at h
    obtain ⟨v, us, e, h1, h2⟩ := h
    subst e
    exact Reps.cons h1 (Reps.eraseIdx i h2)
theorem Reps.reverse : ∀ {ds : List D} {vs : List V}, Reps K n Z ds vs → Reps K n Z ds.reverse vs.reverse
  | [], _, h => by
    unfold Reps at h
    subst h
    exact Reps.nil
  | d :: ds, _, h => by
    unfold Reps at h
    obtain ⟨v, us, e, h1, h2⟩ := h
    subst e
    rw [List.reverse_cons, List.reverse_cons]
    exact Reps.append (Reps.reverse h2) (Reps.one h1)
theorem Reps.flat : ∀ (k : Nat) {ds : List D} {vs : List V}, Reps K n Z ds vs → Reps K n Z (List.replicate k ds).flatten (List.replicate k vs).flatten
  | 0, _, _, _ => by
    rw [List.replicate_zero, List.replicate_zero]
    exact Reps.nil
  | k + 1, _, _, h => by
    rw [List.replicate_succ, List.replicate_succ, List.flatten_cons, List.flatten_cons]
    exact Reps.append h (Reps.flat k h)
theorem Reps.ints : ∀ {is : List Int} {vs : List V}, vs = is.map V.int → Reps K n Z (is.map D.int) vs
  | [], _, e => by
    rw [e]
    exact Reps.nil
  | i :: is, _, e => by
    rw [e]
    exact Reps.cons (by unfold Rep; rfl) (Reps.ints rfl)
theorem Reps.map {α : Type} {f : α → D} {g : α → V} (h : ∀ x, Rep K n Z (f x) (g x)) : ∀ xs : List α, Reps K n Z (xs.map f) (xs.map g)
  | [] => Reps.nil
  | x :: xs => Reps.cons (h x) (Reps.map h xs)

/-! ### the top of a value, things that may change read as they stand -/
def View (K : PySem.W.Frag) (n : Nm) (Z H : Hp) : D → V → Prop
  | .tup ds, v => ∃ a vs, v = .ref a ∧ SqT K Z a vs ∧ Reps K n Z ds vs
  | .lst ds, v => ∃ a vs, v = .ref a ∧ H a = some (.lst vs) ∧ Reps K n Z ds vs
  | .ins c fs ds, v => ∃ a dx ws, v = .ref a ∧ H a = some (.ins (cad K n c) dx ws) ∧ ws.map (·.1) = fs.map n.nm ∧ Reps K n Z ds (ws.map (·.2))
  | .dct ks ds, v => ∃ a ws, v = .ref a ∧ H a = some (.dK ws) ∧ ws.map (·.1) = ks.map DK.key ∧ Reps K n Z ds (ws.map (·.2))
  | .scr ns, v => ∃ a, v = .ref a ∧ SqL K H a (ns.map V.int)
  | .non, v => v = .non
  | .bl b, v => v = .bl b
  | .int i, v => v = .int i
  | .str cs, v => v = .str ⟨cs.toArray⟩
  | .loc a, v => v = .ref a
theorem Rel.T (R : Rel K n Z M H) {vs : List V} (h : SqT K Z a vs) : SqT K H a vs := by
  rcases h with (h | ⟨o, h⟩) | h
  · exact .inl (.inl (R.sub _ _ h))
  · exact .inl (.inr ⟨o, R.sub _ _ h⟩)
  · exact .inr h
theorem Rel.L (R : Rel K n Z M H) {vs : List V} (h : SqL K Z a vs) : SqL K H a vs := by
  rcases h with (h | ⟨o, h⟩) | h
  · exact .inl (.inl (R.sub _ _ h))
  · exact .inl (.inr ⟨o, R.sub _ _ h⟩)
  · exact .inr h
theorem Rep.view (R : Rel K n Z M H) {d : D} {v : V} (r : Rep K n Z d v) : View K n Z H d v := by
  cases d with
  | tup ds =>
    unfold Rep at r
    obtain ⟨a, vs, e, h1, h2⟩ := r
    exact ⟨a, vs, e, h1, h2⟩
  | lst ds =>
    unfold Rep at r
    obtain ⟨a, vs, e, h1, h2⟩ := r
    exact ⟨a, vs, e, R.sub _ _ h1, h2⟩
  | ins c fs ds =>
    unfold Rep at r
    obtain ⟨a, dx, ws, e, h1, h2, h3⟩ := r
    exact ⟨a, dx, ws, e, R.sub _ _ h1, h2, h3⟩
  | dct ks ds =>
    unfold Rep at r
    obtain ⟨a, ws, e, h1, h2, h3⟩ := r
    exact ⟨a, ws, e, R.sub _ _ h1, h2, h3⟩
  | scr ns =>
    unfold Rep at r
    obtain ⟨a, e, h1⟩ := r
    exact ⟨a, e, R.L h1⟩
  | non => unfold Rep at r; exact r
  | bl b => unfold Rep at r; exact r
  | int i => unfold Rep at r; exact r
  | str cs => unfold Rep at r; exact r
  | loc a => unfold Rep at r; exact r
theorem Rep.deref (R : Rel K n Z M H) {d : D} {v : V} (r : Rep K n Z d v) : View K n Z H (deref M d) v := by
  cases d with
  | loc a =>
    unfold Rep at r
    cases e : M a with
    | none =>
      rw [show Lw.deref M (.loc a) = .loc a by simp [Lw.deref, e]]
      exact r
    | some o =>
      have h := (R.may a o e).2
      cases o with
      | lst ds =>
        rw [show Lw.deref M (.loc a) = .lst ds by simp [Lw.deref, e]]
        obtain ⟨vs, h1, h2⟩ := h
        exact ⟨a, vs, r, h1, h2⟩
      | ins c fs ds =>
        rw [show Lw.deref M (.loc a) = .ins c fs ds by simp [Lw.deref, e]]
        obtain ⟨dx, ws, h1, h2, h3⟩ := h
        exact ⟨a, dx, ws, r, h1, h2, h3⟩
      | dct ks ds =>
        rw [show Lw.deref M (.loc a) = .dct ks ds by simp [Lw.deref, e]]
        obtain ⟨ws, h1, h2, h3⟩ := h
        exact ⟨a, ws, r, h1, h2, h3⟩
  | _ => exact r.view R
theorem rep_non : Rep K n Z .non .non := by unfold Rep; rfl
theorem rep_bl {b : Bool} : Rep K n Z (.bl b) (.bl b) := by unfold Rep; rfl
theorem rep_int {i : Int} : Rep K n Z (.int i) (.int i) := by unfold Rep; rfl
theorem rep_str {cs : List Nat} : Rep K n Z (.str cs) (.str ⟨cs.toArray⟩) := by unfold Rep; rfl
theorem rep_loc : Rep K n Z (.loc a) (.ref a) := by unfold Rep; rfl
theorem rep_tup {ds : List D} {vs : List V} (h : Z a = some (.tup vs)) (r : Reps K n Z ds vs) : Rep K n Z (.tup ds) (.ref a) := by
  unfold Rep
  exact ⟨a, vs, rfl, SqT.of h, r⟩
theorem rep_tupT {ds : List D} {vs : List V} (h : SqT K Z a vs) (r : Reps K n Z ds vs) : Rep K n Z (.tup ds) (.ref a) := by
  unfold Rep
  exact ⟨a, vs, rfl, h, r⟩
theorem rep_lst {ds : List D} {vs : List V} (h : Z a = some (.lst vs)) (r : Reps K n Z ds vs) : Rep K n Z (.lst ds) (.ref a) := by
  unfold Rep
  exact ⟨a, vs, rfl, h, r⟩
end
end Lw

set_option Elab.async false
set_option linter.all false
set_option maxRecDepth 100000
set_option maxHeartbeats 1000000
/-! Lw3: what operations on values give, by trees. -/
namespace Lw
open PySem PySem.Spec PyProof.Rows L2

section
variable (K : PySem.W.Frag) (n : Nm)
/-- the end of an expression: wherever trees are told, values are -/
def REnd (Z : Hp) (Qd : DK1) (Q : VK) : Prop := ∀ Z' M' H' d v, Same Z Z' → Rel K n Z' M' H' → Rep K n Z' d v → Qd d M' → Q v H'
/-- the end of an exception -/
def RXn (Z : Hp) (xq : XK1) (W : Value → Option Addr → Hp → Prop) : Prop := ∀ Z' M' H' x, Same Z Z' → Rel K n Z' M' H' → xq x M' → W (.ref (cad K n x.c)) none H'
end
section
variable {K : PySem.W.Frag} {n : Nm} {Z Z' H : Hp} {M : Mem} {Qd : DK1} {Q : VK}
theorem REnd.mono (s : Same Z Z') (k : REnd K n Z Qd Q) : REnd K n Z' Qd Q := fun Z2 M2 H2 d v s2 R r h => k Z2 M2 H2 d v (s.trans s2) R r h
theorem RXn.mono {xq : XK1} {W : Value → Option Addr → Hp → Prop} (s : Same Z Z') (k : RXn K n Z xq W) : RXn K n Z' xq W := fun Z2 M2 H2 x s2 R h => k Z2 M2 H2 x (s.trans s2) R h
theorem fin_val (R : Rel K n Z M H) (k : REnd K n Z Qd Q) {m : Bool} {d : D} {v : V} (r : Rep K n Z d v) (hd : ∀ xs, d ≠ .lst xs) (hd2 : ∀ ks vs, d ≠ .dct ks vs) (h : fin m d M Qd) : Q v H := by
  cases m with
  | false => exact k Z M H d v (Same.refl Z) R r h
  | true =>
    cases d with
    | lst xs => exact absurd rfl (hd xs)
    | dct ks vs => exact absurd rfl (hd2 ks vs)
    | _ => exact h.elim
/-- a new list: it may change from now on, or never will -/
theorem fin_lst (R : Rel K n Z M H) (k : REnd K n Z Qd Q) {m : Bool} {ds : List D} {vs : List V} (r : Reps K n Z ds vs) (h : fin m (.lst ds) M Qd) {p : Addr} (hp : H p = none) : Q (.ref p) (upd H p (.lst vs)) := by
  obtain ⟨hz, hm⟩ := R.fresh hp
  cases m with
  | false =>
    have s : Same Z (upd Z p (.lst vs)) := same_upd hz
    exact k _ _ _ (.lst ds) (.ref p) s (R.frozen hp) (rep_lst upd_same (Reps.mono K n s ds r)) h
  | true =>
    have ro : RepO K n Z (upd H p (.lst vs)) p (.lst ds) := ⟨vs, upd_same, r⟩
    exact k Z _ _ (.loc p) (.ref p) (Same.refl Z) (R.put hz ro) rep_loc (h p hm)
theorem fin_tup (R : Rel K n Z M H) (k : REnd K n Z Qd Q) {m : Bool} {ds : List D} {vs : List V} (r : Reps K n Z ds vs) (h : fin m (.tup ds) M Qd) {p : Addr} (hp : H p = none) : Q (.ref p) (upd H p (.tup vs)) := by
  obtain ⟨hz, hm⟩ := R.fresh hp
  cases m with
  | false =>
    have s : Same Z (upd Z p (.tup vs)) := same_upd hz
    exact k _ _ _ (.tup ds) (.ref p) s (R.frozen hp) (rep_tup upd_same (Reps.mono K n s ds r)) h
  | true => exact h.elim
end

section
variable (K : PySem.W.Frag) (n : Nm)
/-- a two-place operation on trees, by values -/
def rF (m : Bool) (F : D → D → Option D) : R2 := fun x y H Q => ∃ Z M d e z Qd, Rel K n Z M H ∧ Rep K n Z d x ∧ Rep K n Z e y ∧ F (deref M d) (deref M e) = some z ∧ fin m z M Qd ∧ REnd K n Z Qd Q
def rP (F : D → D → Option Bool) : R2 := fun x y H Q => ∃ Z M d e z, Rel K n Z M H ∧ Rep K n Z d x ∧ Rep K n Z e y ∧ F (deref M d) (deref M e) = some z ∧ Q (.bl z) H
end
section
variable {X : Cx} {n : Nm} {m : Bool}
theorem str_len (a : List Nat) : (⟨a.toArray⟩ : Str).length = a.length := by
  show a.toArray.size = a.length
  simp
theorem str_app (a b : List Nat) : (⟨a.toArray⟩ : Str) ++ ⟨b.toArray⟩ = ⟨(a ++ b).toArray⟩ := by
  apply TL.ext_tl
  rw [TL.tl_append, TL.tl_mk, TL.tl_mk, TL.tl_mk]
theorem add_ok : OpR X (binaryOp .Add) (rF X.K n m addF) := by
  intro pins s σ H x y v u Q I rx ry ⟨Z, M, d, e, z, Qd, R, r1, r2, ez, h, k⟩
  have v1 := r1.deref R
  have v2 := r2.deref R
  generalize deref M d = d' at v1 ez
  generalize deref M e = e' at v2 ez
  unfold addF at ez
  split at ez
  · cases ez
    have w1 : x = V.int _ := v1
    have w2 : y = V.int _ := v2
    subst w1 w2
    exact op_add pins s σ H _ _ v u Q I rx ry ⟨_, _, rfl, rfl, fin_val R k rep_int (fun _ q => nomatch q) (fun _ _ q => nomatch q) h⟩
  · split at ez
    · rename_i hl
      cases ez
      have w1 : x = V.str _ := v1
      have w2 : y = V.str _ := v2
      subst w1 w2
      refine op_add_str pins s σ H _ _ v u Q I rx ry ⟨_, _, rfl, rfl, by rw [str_len, str_len]; exact hl, ?_⟩
      rw [str_app]
      exact fin_val R k rep_str (fun _ q => nomatch q) (fun _ _ q => nomatch q) h
    · cases ez
  · split at ez
    · rename_i hl
      cases ez
      obtain ⟨p, vs, ep, h1, h2⟩ := v1
      obtain ⟨q, ws, eq, h3, h4⟩ := v2
      subst ep eq
      refine op_catA pins s σ H _ _ v u Q I rx ry ⟨p, q, vs, ws, rfl, rfl, R.T h1, R.T h3, by rw [h2.length, h4.length]; exact hl, fun ev => ?_, fun _ ew => ?_, fun _ _ t ht => ?_⟩
      · rename_i a b
        have e1 : a = [] := List.length_eq_zero_iff.mp (by rw [← h2.length, ev]; rfl)
        rw [e1, List.nil_append] at h
        exact fin_val R k (rep_tupT h3 h4) (fun _ q => nomatch q) (fun _ _ q => nomatch q) h
      · rename_i a b _
        have e1 : b = [] := List.length_eq_zero_iff.mp (by rw [← h4.length, ew]; rfl)
        rw [e1, List.append_nil] at h
        exact fin_val R k (rep_tupT h1 h2) (fun _ q => nomatch q) (fun _ _ q => nomatch q) h
      · exact fin_tup R k (h2.append h4) h ht
    · cases ez
  · split at ez
    · rename_i hl
      cases ez
      obtain ⟨p, vs, ep, h1, h2⟩ := v1
      obtain ⟨q, ws, eq, h3, h4⟩ := v2
      subst ep eq
      exact op_cat pins s σ H _ _ v u Q I rx ry ⟨p, q, vs, ws, rfl, rfl, h1, h3, by rw [h2.length, h4.length]; exact hl, fun t ht => fin_lst R k (h2.append h4) h ht⟩
    · cases ez
  · cases ez
theorem sub_ok : OpR X (binaryOp .Sub) (rF X.K n m subF) := by
  intro pins s σ H x y v u Q I rx ry ⟨Z, M, d, e, z, Qd, R, r1, r2, ez, h, k⟩
  have v1 := r1.deref R
  have v2 := r2.deref R
  generalize deref M d = d' at v1 ez
  generalize deref M e = e' at v2 ez
  unfold subF at ez
  split at ez
  · cases ez
    have w1 : x = V.int _ := v1
    have w2 : y = V.int _ := v2
    subst w1 w2
    exact op_sub pins s σ H _ _ v u Q I rx ry ⟨_, _, rfl, rfl, fin_val R k rep_int (fun _ q => nomatch q) (fun _ _ q => nomatch q) h⟩
  · cases ez
theorem cps_rep0 (c : List Nat) : ∀ (m : Nat) (acc : List Nat), (List.replicate m c.toArray).foldl (· ++ ·) acc.toArray = (acc ++ (List.replicate m c).flatten).toArray
  | 0, acc => by simp
  | m + 1, acc => by
    rw [List.replicate_succ, List.foldl_cons, List.append_toArray, cps_rep0 c m, List.replicate_succ, List.flatten_cons, List.append_assoc]
theorem cps_rep (c : List Nat) (m : Nat) : (List.replicate m c.toArray).foldl (· ++ ·) #[] = (List.replicate m c).flatten.toArray := cps_rep0 c m []
theorem op_mul_str : OpR X (binaryOp .Mult) (fun x y H Q => ∃ cs k, x = .str ⟨cs.toArray⟩ ∧ y = .int k ∧ cs ≠ [] ∧ 2 ≤ k ∧ k ≤ 1000 ∧ cs.length ≤ 1000 ∧ Q (.str ⟨(List.replicate k.toNat cs).flatten.toArray⟩) H) := by
  intro pins s σ H x y v u Q I rx ry h
  obtain ⟨cs, k, rfl, rfl, hne, h1, h2, hz, q⟩ := h
  obtain ⟨t, rfl⟩ := rx
  obtain ⟨t', rfl⟩ := ry
  refine SB.mul (mulOk_of 1000 1000 (by rw [str_len]; exact hz) (by omega) (by omega) (by decide) (by decide)) fun t' tk => ?_
  have e : Txt.mul ⟨cs.toArray⟩ k = ⟨(List.replicate k.toNat cs).flatten.toArray⟩ := by
    unfold Txt.mul
    rw [if_neg (by omega), if_neg, cps_rep]
    rw [str_len]
    simp only [Bool.or_eq_true, beq_iff_eq, not_or]
    exact ⟨by omega, fun e => hne (List.eq_nil_of_length_eq_zero e)⟩
  rw [e]
  exact ⟨.str ⟨(List.replicate k.toNat cs).flatten.toArray⟩, H, I.tok _, ⟨_, rfl⟩, q⟩
theorem mul_ok : OpR X (binaryOp .Mult) (rF X.K n m mulF) := by
  intro pins s σ H x y v u Q I rx ry ⟨Z, M, d, e, z, Qd, R, r1, r2, ez, h, k⟩
  have v1 := r1.deref R
  have v2 := r2.deref R
  generalize deref M d = d' at v1 ez
  generalize deref M e = e' at v2 ez
  unfold mulF at ez
  split at ez
  · split at ez
    · rename_i hm
      cases ez
      have w1 : x = V.int _ := v1
      have w2 : y = V.int _ := v2
      subst w1 w2
      exact op_mul pins s σ H _ _ v u Q I rx ry ⟨_, _, rfl, rfl, hm, fin_val R k rep_int (fun _ q => nomatch q) (fun _ _ q => nomatch q) h⟩
    · cases ez
  · split at ez
    · rename_i hc
      cases ez
      obtain ⟨p, vs, ep, h1, h2⟩ := v1
      have w2 : y = V.int _ := v2
      subst ep w2
      exact op_rep pins s σ H _ _ v u Q I rx ry ⟨p, _, vs, rfl, rfl, h1, hc.1, hc.2.1, by rw [h2.length]; exact hc.2.2, fun t ht => fin_lst R k (Reps.flat _ h2) h ht⟩
    · cases ez
  · split at ez
    · rename_i hc
      cases ez
      obtain ⟨p, vs, ep, h1, h2⟩ := v1
      have w2 : y = V.int _ := v2
      subst ep w2
      refine op_repT pins s σ H _ _ v u Q I rx ry ⟨p, _, vs, rfl, rfl, R.T h1, fun ev => hc.1 ?_, hc.2.1, hc.2.2.1, by rw [h2.length]; exact hc.2.2.2, fun t ht => fin_tup R k (Reps.flat _ h2) h ht⟩
      rename_i a b
      exact List.length_eq_zero_iff.mp (by rw [← h2.length, ev]; rfl)
    · cases ez
  · split at ez
    · rename_i hc
      cases ez
      have w1 : x = V.str _ := v1
      have w2 : y = V.int _ := v2
      subst w1 w2
      exact op_mul_str pins s σ H _ _ v u Q I rx ry ⟨_, _, rfl, rfl, hc.1, hc.2.1, hc.2.2.1, hc.2.2.2, fin_val R k rep_str (fun _ q => nomatch q) (fun _ _ q => nomatch q) h⟩
    · cases ez
  · cases ez
theorem fdiv_ok : OpR X (binaryOp .FloorDiv) (rF X.K n m fdivF) := by
  intro pins s σ H x y v u Q I rx ry ⟨Z, M, d, e, z, Qd, R, r1, r2, ez, h, k⟩
  have v1 := r1.deref R
  have v2 := r2.deref R
  generalize deref M d = d' at v1 ez
  generalize deref M e = e' at v2 ez
  unfold fdivF at ez
  split at ez
  · split at ez
    · rename_i hm
      cases ez
      have w1 : x = V.int _ := v1
      have w2 : y = V.int _ := v2
      subst w1 w2
      exact op_fdiv pins s σ H _ _ v u Q I rx ry ⟨_, _, rfl, rfl, hm, fin_val R k rep_int (fun _ q => nomatch q) (fun _ _ q => nomatch q) h⟩
    · cases ez
  · cases ez
theorem mod_ok : OpR X (binaryOp .Mod) (rF X.K n m modF) := by
  intro pins s σ H x y v u Q I rx ry ⟨Z, M, d, e, z, Qd, R, r1, r2, ez, h, k⟩
  have v1 := r1.deref R
  have v2 := r2.deref R
  generalize deref M d = d' at v1 ez
  generalize deref M e = e' at v2 ez
  unfold modF at ez
  split at ez
  · split at ez
    · rename_i hm
      cases ez
      have w1 : x = V.int _ := v1
      have w2 : y = V.int _ := v2
      subst w1 w2
      exact op_mod pins s σ H _ _ v u Q I rx ry ⟨_, _, rfl, rfl, hm, fin_val R k rep_int (fun _ q => nomatch q) (fun _ _ q => nomatch q) h⟩
    · cases ez
  · cases ez
theorem pow_ok : OpR X (binaryOp .Pow) (rF X.K n m powF) := by
  intro pins s σ H x y v u Q I rx ry ⟨Z, M, d, e, z, Qd, R, r1, r2, ez, h, k⟩
  have v1 := r1.deref R
  have v2 := r2.deref R
  generalize deref M d = d' at v1 ez
  generalize deref M e = e' at v2 ez
  unfold powF at ez
  split at ez
  · split at ez
    · rename_i hm
      cases ez
      have w1 : x = V.int _ := v1
      have w2 : y = V.int _ := v2
      subst w1 w2
      exact op_pow pins s σ H _ _ v u Q I rx ry ⟨_, _, rfl, rfl, hm, fin_val R k rep_int (fun _ q => nomatch q) (fun _ _ q => nomatch q) h⟩
    · cases ez
  · cases ez
def bopO : Bop → Operator
  | .add => .Add
  | .sub => .Sub
  | .mul => .Mult
  | .fdiv => .FloorDiv
  | .mod => .Mod
  | .pow => .Pow
theorem bin_ok (op : Bop) : OpR X (binaryOp (bopO op)) (rF X.K n m (binF op)) := by
  cases op with
  | add => exact add_ok
  | sub => exact sub_ok
  | mul => exact mul_ok
  | fdiv => exact fdiv_ok
  | mod => exact mod_ok
  | pow => exact pow_ok

/-! ### comparisons -/
mutual
theorem toPy_dp {Z H : Hp} {M : Mem} (R : Rel X.K n Z M H) : ∀ (d : D) {v : V} {p : PyData}, Rep X.K n Z d v → toPy d = some p → Dp X.K H v p
  | .non, v, p, r, e => by
    unfold Rep at r
    unfold toPy at e
    cases e
    subst r
    exact .non
  | .bl b, v, p, r, e => by
    unfold Rep at r
    unfold toPy at e
    cases e
    subst r
    exact .bl b
  | .int i, v, p, r, e => by
    unfold Rep at r
    unfold toPy at e
    cases e
    subst r
    exact .int i
  | .str cs, v, p, r, e => by
    unfold Rep at r
    unfold toPy at e
    cases e
    subst r
    exact .str _
  | .tup ds, v, p, r, e => by
    unfold Rep at r
    unfold toPy at e
    obtain ⟨a, vs, ev, h1, h2⟩ := r
    cases q : toPys ds with
    | none =>
      rw [q] at e
      cases e
    | some ps =>
      rw [q] at e
      cases e
      subst ev
      exact .tup (R.T h1) (toPys_dp R ds h2 q)
  | .lst ds, v, p, r, e => by
    unfold Rep at r
    unfold toPy at e
    obtain ⟨a, vs, ev, h1, h2⟩ := r
    cases q : toPys ds with
    | none =>
      rw [q] at e
      cases e
    | some ps =>
      rw [q] at e
      cases e
      subst ev
      exact .lst (SqL.of (R.sub _ _ h1)) (toPys_dp R ds h2 q)
  | .ins _ _ _, v, p, r, e => by
    unfold toPy at e
    cases e
  | .dct _ _, v, p, r, e => by
    unfold toPy at e
    cases e
  | .loc _, v, p, r, e => by
    unfold toPy at e
    cases e
  | .scr _, v, p, r, e => by
    unfold toPy at e
    cases e
theorem toPys_dp {Z H : Hp} {M : Mem} (R : Rel X.K n Z M H) : ∀ (ds : List D) {vs : List V} {ps : List PyData}, Reps X.K n Z ds vs → toPys ds = some ps → DpAll X.K H vs ps
  | [], vs, ps, r, e => by
    unfold Reps at r
    unfold toPys at e
    cases e
    subst r
    exact .nil
  | d :: ds, vs, ps, r, e => by
    unfold Reps at r
    unfold toPys at e
    obtain ⟨v, ws, ev, h1, h2⟩ := r
    cases q1 : toPy d with
    | none =>
      rw [q1] at e
      cases e
    | some p =>
      cases q2 : toPys ds with
      | none =>
        rw [q1, q2] at e
        cases e
      | some qs =>
        rw [q1, q2] at e
        cases e
        subst ev
        exact .cons (toPy_dp R d h1 q1) (toPys_dp R ds h2 q2)
end
/-- of a list that may change, too -/
theorem view_dp {Z H : Hp} {M : Mem} (R : Rel X.K n Z M H) {d : D} {v : V} {p : PyData} (w : View X.K n Z H d v) (e : toPy d = some p) : Dp X.K H v p := by
  cases d with
  | lst ds =>
    obtain ⟨a, vs, ev, h1, h2⟩ := w
    unfold toPy at e
    cases q : toPys ds with
    | none =>
      rw [q] at e
      cases e
    | some ps =>
      rw [q] at e
      cases e
      subst ev
      exact .lst (SqL.of h1) (toPys_dp R ds h2 q)
  | tup ds =>
    obtain ⟨a, vs, ev, h1, h2⟩ := w
    exact toPy_dp R (.tup ds) (by rw [ev]; exact rep_tupT h1 h2) e
  | non => exact toPy_dp R .non (by unfold Rep; exact w) e
  | bl b => exact toPy_dp R (.bl b) (by unfold Rep; exact w) e
  | int b => exact toPy_dp R (.int b) (by unfold Rep; exact w) e
  | str b => exact toPy_dp R (.str b) (by unfold Rep; exact w) e
  | ins _ _ _ =>
    unfold toPy at e
    cases e
  | dct _ _ =>
    unfold toPy at e
    cases e
  | loc _ =>
    unfold toPy at e
    cases e
  | scr _ =>
    unfold toPy at e
    cases e
theorem cps_eq {a b : List Nat} : decide (V.str ⟨a.toArray⟩ = V.str ⟨b.toArray⟩) = decide (a = b) := by
  by_cases e : a = b
  · rw [e, decide_eq_true rfl, decide_eq_true rfl]
  · rw [decide_eq_false e]
    refine decide_eq_false fun q => e ?_
    injection q with q
    injection q with q
    simpa using congrArg Array.toList q
theorem deep_ok {Z H : Hp} {M : Mem} (R : Rel X.K n Z M H) {d e : D} {x y : V} {z : Bool} (w1 : View X.K n Z H d x) (w2 : View X.K n Z H e y) (h : eqDeep d e = some z) : ∃ p q, Dp X.K H x p ∧ Dp X.K H y q ∧ SeqAt.shaped p = true ∧ SeqAt.shaped q = true ∧ PyData.eqv p q = z := by
  unfold eqDeep at h
  split at h
  · rename_i a b ea eb
    split at h
    · rename_i hs
      cases h
      exact ⟨a, b, view_dp R w1 ea, view_dp R w2 eb, hs.1, hs.2, rfl⟩
    · cases h
  · cases h
/-- what == gives: of scalars by itself, of others as data -/
theorem eqF_ok {Z H : Hp} {M : Mem} (R : Rel X.K n Z M H) {d e : D} {x y : V} {z : Bool} (w1 : View X.K n Z H d x) (w2 : View X.K n Z H e y) (h : eqF d e = some z) :
    (scal x y = true ∧ decide (x = y) = z) ∨ ∃ p q, Dp X.K H x p ∧ Dp X.K H y q ∧ SeqAt.shaped p = true ∧ SeqAt.shaped q = true ∧ PyData.eqv p q = z := by
  unfold eqF at h
  split at h
  · cases h
    have e1 : x = V.int _ := w1
    have e2 : y = V.int _ := w2
    subst e1 e2
    refine .inl ⟨rfl, ?_⟩
    rw [dec_int]
    exact (Bool.eq_iff_iff.mpr (by simp))
  · cases h
    have e1 : x = V.str _ := w1
    have e2 : y = V.str _ := w2
    subst e1 e2
    exact .inl ⟨rfl, cps_eq⟩
  · cases h
    have e1 : x = V.bl _ := w1
    have e2 : y = V.bl _ := w2
    subst e1 e2
    exact .inl ⟨rfl, dec_bl⟩
  · cases h
    have e1 : x = V.non := w1
    have e2 : y = V.non := w2
    subst e1 e2
    exact .inl ⟨rfl, decide_eq_true rfl⟩
  · cases h
    have e1 : x = V.non := w1
    have e2 : y = V.int _ := w2
    subst e1 e2
    exact .inl ⟨rfl, decide_eq_false fun q => nomatch q⟩
  · cases h
    have e1 : x = V.int _ := w1
    have e2 : y = V.non := w2
    subst e1 e2
    exact .inl ⟨rfl, decide_eq_false fun q => nomatch q⟩
  · cases h
    have e1 : x = V.non := w1
    have e2 : y = V.bl _ := w2
    subst e1 e2
    exact .inl ⟨rfl, decide_eq_false fun q => nomatch q⟩
  · cases h
    have e1 : x = V.bl _ := w1
    have e2 : y = V.non := w2
    subst e1 e2
    exact .inl ⟨rfl, decide_eq_false fun q => nomatch q⟩
  · cases h
    have e1 : x = V.non := w1
    have e2 : y = V.str _ := w2
    subst e1 e2
    exact .inl ⟨rfl, decide_eq_false fun q => nomatch q⟩
  · cases h
    have e1 : x = V.str _ := w1
    have e2 : y = V.non := w2
    subst e1 e2
    exact .inl ⟨rfl, decide_eq_false fun q => nomatch q⟩
  · cases h
    have e1 : x = V.int _ := w1
    have e2 : y = V.str _ := w2
    subst e1 e2
    exact .inl ⟨rfl, decide_eq_false fun q => nomatch q⟩
  · cases h
    have e1 : x = V.str _ := w1
    have e2 : y = V.int _ := w2
    subst e1 e2
    exact .inl ⟨rfl, decide_eq_false fun q => nomatch q⟩
  · cases h
    have e1 : x = V.bl _ := w1
    have e2 : y = V.str _ := w2
    subst e1 e2
    exact .inl ⟨rfl, decide_eq_false fun q => nomatch q⟩
  · cases h
    have e1 : x = V.str _ := w1
    have e2 : y = V.bl _ := w2
    subst e1 e2
    exact .inl ⟨rfl, decide_eq_false fun q => nomatch q⟩
  · exact .inr (deep_ok R w1 w2 h)
theorem eq_ok (hu : X.A.units + 64 < cLine) : OpR X (compareOp .Eq) (rP X.K n (cmpF .eq)) := by
  intro pins s σ H x y v u Q I rx ry ⟨Z, M, d, e, z, R, r1, r2, ez, h⟩
  rcases eqF_ok R (r1.deref R) (r2.deref R) ez with ⟨h1, h2⟩ | ⟨p, q, h1, h2, h3, h4, h5⟩
  · exact op_eq pins s σ H x y v u Q I rx ry ⟨h1, by rw [h2]; exact h⟩
  · exact op_eqD hu pins s σ H x y v u Q I rx ry ⟨p, q, h1, h2, h3, h4, by rw [h5]; exact h⟩
theorem map_not {o : Option Bool} {z : Bool} (h : o.map not = some z) : o = some (!z) := by
  cases o with
  | none => cases h
  | some b =>
    cases h
    rw [Bool.not_not]
theorem ne_ok (hu : X.A.units + 64 < cLine) : OpR X (compareOp .NotEq) (rP X.K n (cmpF .ne)) := by
  intro pins s σ H x y v u Q I rx ry ⟨Z, M, d, e, z, R, r1, r2, ez, h⟩
  have ez2 : eqF (deref M d) (deref M e) = some (!z) := map_not ez
  rcases eqF_ok R (r1.deref R) (r2.deref R) ez2 with ⟨h1, h2⟩ | ⟨p, q, h1, h2, h3, h4, h5⟩
  · exact op_ne pins s σ H x y v u Q I rx ry ⟨h1, by rw [h2, Bool.not_not]; exact h⟩
  · exact op_neD hu pins s σ H x y v u Q I rx ry ⟨p, q, h1, h2, h3, h4, by rw [h5, Bool.not_not]; exact h⟩
theorem lt_ok : OpR X (compareOp .Lt) (rP X.K n (cmpF .lt)) := by
  intro pins s σ H x y v u Q I rx ry ⟨Z, M, d, e, z, R, r1, r2, ez, h⟩
  have v1 := r1.deref R
  have v2 := r2.deref R
  generalize deref M d = d' at v1 ez
  generalize deref M e = e' at v2 ez
  cases d' with
  | int i =>
    cases e' with
    | int j =>
      cases ez
      have w1 : x = V.int _ := v1
      have w2 : y = V.int _ := v2
      subst w1 w2
      exact op_lt pins s σ H _ _ v u Q I rx ry ⟨_, _, rfl, rfl, h⟩
    | _ => cases ez
  | _ => cases ez
theorem le_ok : OpR X (compareOp .LtE) (rP X.K n (cmpF .le)) := by
  intro pins s σ H x y v u Q I rx ry ⟨Z, M, d, e, z, R, r1, r2, ez, h⟩
  have v1 := r1.deref R
  have v2 := r2.deref R
  generalize deref M d = d' at v1 ez
  generalize deref M e = e' at v2 ez
  cases d' with
  | int i =>
    cases e' with
    | int j =>
      cases ez
      have w1 : x = V.int _ := v1
      have w2 : y = V.int _ := v2
      subst w1 w2
      exact op_le pins s σ H _ _ v u Q I rx ry ⟨_, _, rfl, rfl, h⟩
    | _ => cases ez
  | _ => cases ez
theorem gt_ok : OpR X (compareOp .Gt) (rP X.K n (cmpF .gt)) := by
  intro pins s σ H x y v u Q I rx ry ⟨Z, M, d, e, z, R, r1, r2, ez, h⟩
  have v1 := r1.deref R
  have v2 := r2.deref R
  generalize deref M d = d' at v1 ez
  generalize deref M e = e' at v2 ez
  cases d' with
  | int i =>
    cases e' with
    | int j =>
      cases ez
      have w1 : x = V.int _ := v1
      have w2 : y = V.int _ := v2
      subst w1 w2
      exact op_gt pins s σ H _ _ v u Q I rx ry ⟨_, _, rfl, rfl, h⟩
    | _ => cases ez
  | _ => cases ez
theorem ge_ok : OpR X (compareOp .GtE) (rP X.K n (cmpF .ge)) := by
  intro pins s σ H x y v u Q I rx ry ⟨Z, M, d, e, z, R, r1, r2, ez, h⟩
  have v1 := r1.deref R
  have v2 := r2.deref R
  generalize deref M d = d' at v1 ez
  generalize deref M e = e' at v2 ez
  cases d' with
  | int i =>
    cases e' with
    | int j =>
      cases ez
      have w1 : x = V.int _ := v1
      have w2 : y = V.int _ := v2
      subst w1 w2
      exact op_ge pins s σ H _ _ v u Q I rx ry ⟨_, _, rfl, rfl, h⟩
    | _ => cases ez
  | _ => cases ez
theorem flat_view {Z H : Hp} {d : D} {x : V} (w : View X.K n Z H d x) (f : flatD d = true) : flatV x = true := by
  cases d with
  | non =>
    have e : x = V.non := w
    subst e
    rfl
  | bl b =>
    have e : x = V.bl b := w
    subst e
    rfl
  | int b =>
    have e : x = V.int b := w
    subst e
    rfl
  | str b =>
    have e : x = V.str _ := w
    subst e
    rfl
  | _ => cases f
theorem cps_beq {a b : List Nat} : ((⟨a.toArray⟩ : Str) == ⟨b.toArray⟩) = (a == b) := by
  have h := @cps_eq a b
  rw [dec_str] at h
  rw [h]
  exact (Bool.eq_iff_iff.mpr (by simp))
theorem eqFl_view {Z H : Hp} {d e : D} {x y : V} (w1 : View X.K n Z H d x) (w2 : View X.K n Z H e y) (f1 : flatD d = true) (f2 : flatD e = true) : eqV x y = eqFl d e := by
  cases d with
  | non =>
    have q : x = V.non := w1
    subst q
    cases e with
    | non => have q : y = V.non := w2; subst q; rfl
    | bl b => have q : y = V.bl b := w2; subst q; rfl
    | int b => have q : y = V.int b := w2; subst q; rfl
    | str b => have q : y = V.str _ := w2; subst q; rfl
    | _ => cases f2
  | bl a =>
    have q : x = V.bl a := w1
    subst q
    cases e with
    | non => have q : y = V.non := w2; subst q; rfl
    | bl b => have q : y = V.bl b := w2; subst q; rfl
    | int b => have q : y = V.int b := w2; subst q; rfl
    | str b => have q : y = V.str _ := w2; subst q; rfl
    | _ => cases f2
  | int a =>
    have q : x = V.int a := w1
    subst q
    cases e with
    | non => have q : y = V.non := w2; subst q; rfl
    | bl b => have q : y = V.bl b := w2; subst q; rfl
    | int b => have q : y = V.int b := w2; subst q; rfl
    | str b => have q : y = V.str _ := w2; subst q; rfl
    | _ => cases f2
  | str a =>
    have q : x = V.str _ := w1
    subst q
    cases e with
    | non => have q : y = V.non := w2; subst q; rfl
    | bl b => have q : y = V.bl b := w2; subst q; rfl
    | int b => have q : y = V.int b := w2; subst q; rfl
    | str b => have q : y = V.str _ := w2; subst q; exact cps_beq
    | _ => cases f2
  | _ => cases f1
/-- a flat value's tree and its view -/
theorem Rep.flat {Z H : Hp} {d : D} {x : V} (r : Rep X.K n Z d x) (f : flatD d = true) : View X.K n Z H d x := by
  cases d with
  | non => unfold Rep at r; exact r
  | bl b => unfold Rep at r; exact r
  | int b => unfold Rep at r; exact r
  | str b => unfold Rep at r; exact r
  | _ => cases f
theorem inV_reps {Z H : Hp} {d : D} {x : V} (w : View X.K n Z H d x) (f : flatD d = true) : ∀ {ys : List D} {vs : List V}, Reps X.K n Z ys vs → ys.all flatD = true → vs.all flatV = true ∧ inV x vs = ys.any fun y => eqFl y d
  | [], vs, r, _ => by
    unfold Reps at r
    subst r
    exact ⟨rfl, rfl⟩
  | y :: ys, vs, r, h => by
    unfold Reps at r
    obtain ⟨v, ws, e, r1, r2⟩ := r
    subst e
    rw [List.all_cons, Bool.and_eq_true] at h
    obtain ⟨h1, h2⟩ := inV_reps w f r2 h.2
    have w1 : View X.K n Z H y v := r1.flat h.1
    refine ⟨by rw [List.all_cons, flat_view w1 h.1, h1]; rfl, ?_⟩
    unfold inV at h2 ⊢
    rw [List.any_cons, List.any_cons, h2, eqFl_view w1 w h.1 f]
theorem getK_kvs {Z : Hp} : ∀ {ks : List DK} {ds : List D} {ws : List (Key × V)} {k : DK}, ws.map (·.1) = ks.map DK.key → Reps X.K n Z ds (ws.map (·.2)) →
    (match getK ks ds k with
     | some d => ∃ v, valV ws k.key = some v ∧ Rep X.K n Z d v
     | none => valV ws k.key = none) := by
  intro ks
  induction ks with
  | nil =>
    intro ds ws k h1 h2
    have e : ws = [] := by
      cases ws with
      | nil => rfl
      | cons a b => cases h1
    subst e
    unfold getK
    show valV [] k.key = none
    rfl
  | cons q ks ih =>
    intro ds ws k h1 h2
    cases ws with
    | nil => cases h1
    | cons w ws =>
      obtain ⟨wk, wv⟩ := w
      rw [List.map_cons, List.map_cons] at h1
      injection h1 with h3 h4
      rw [List.map_cons] at h2
      cases ds with
      | nil =>
        unfold Reps at h2
        cases h2
      | cons d ds =>
        unfold Reps at h2
        obtain ⟨v, us, e, r1, r2⟩ := h2
        injection e with e1 e2
        have e1 : wv = v := e1
        have h3 : wk = q.key := h3
        subst e1 e2 h3
        unfold getK
        by_cases eq : q = k
        · subst eq
          rw [if_pos rfl]
          refine ⟨wv, ?_, r1⟩
          unfold valV
          simp
        · rw [if_neg eq]
          have ih' := ih (ds := ds) (ws := ws) (k := k) h4 r2
          have hk : ¬ q.key = k.key := fun e => eq (DK.key_inj e)
          have e2 : valV ((q.key, wv) :: ws) k.key = valV ws k.key := by
            unfold valV
            simp [hk]
          rw [e2]
          exact ih'
theorem keyF_view {Z H : Hp} {d : D} {x : V} {k : DK} (r : Rep X.K n Z d x) (e : keyF d = some k) : x = kV k.key := by
  cases d with
  | int i =>
    unfold Rep at r
    cases e
    exact r
  | str cs =>
    unfold Rep at r
    cases e
    exact r
  | _ => cases e
theorem key_rep {Z H : Hp} {M : Mem} {d : D} {x : V} {k : DK} (r : Rep X.K n Z d x) (e : keyF (deref M d) = some k) : x = kV k.key := by
  cases d with
  | int i => exact keyF_view (H := H) r e
  | str cs => exact keyF_view (H := H) r e
  | loc a =>
    unfold deref at e
    cases q : M a with
    | none =>
      simp only [q] at e
      cases e
    | some o =>
      simp only [q] at e
      cases o with
      | _ => cases e
  | _ => cases e
theorem flat_rep {Z H : Hp} {M : Mem} {d : D} {x : V} (r : Rep X.K n Z d x) (f : flatD (deref M d) = true) : View X.K n Z H (deref M d) x := by
  cases d with
  | loc a =>
    unfold deref at f
    cases q : M a with
    | none =>
      simp only [q] at f
      cases f
    | some o =>
      simp only [q] at f
      cases o with
      | _ => cases f
  | _ => exact r.flat f
/-- in: how it is shown -/
theorem inF_ok {Z H : Hp} {M : Mem} (R : Rel X.K n Z M H) {d e : D} {x y : V} {z : Bool} (r1 : Rep X.K n Z d x) (w2 : View X.K n Z H e y) (h : inF (deref M d) e = some z) :
    (∃ p xs, y = .ref p ∧ (SqL X.K H p xs ∨ SqT X.K H p xs) ∧ flatV x = true ∧ xs.all flatV = true ∧ inV x xs = z) ∨
    (∃ (c : Nat) (w : Str), x = .str ⟨#[c]⟩ ∧ y = .str w ∧ decide (c ∈ w.cps.toList) = z) ∨ ∃ a o, y = .ref a ∧ DGet H a x o ∧ o.isSome = z := by
  cases e with
  | lst ys =>
    have h2 : (if flatD (deref M d) = true ∧ ys.all flatD = true then some (ys.any fun y => eqFl y (deref M d)) else none) = some z := h
    split at h2
    · rename_i hc
      cases h2
      obtain ⟨a, vs, ev, h3, h4⟩ := w2
      have w1 := flat_rep (H := H) r1 hc.1
      obtain ⟨h5, h6⟩ := inV_reps w1 hc.1 h4 hc.2
      exact .inl ⟨a, vs, ev, .inl (SqL.of h3), flat_view w1 hc.1, h5, h6⟩
    · cases h2
  | tup ys =>
    have h2 : (if flatD (deref M d) = true ∧ ys.all flatD = true then some (ys.any fun y => eqFl y (deref M d)) else none) = some z := h
    split at h2
    · rename_i hc
      cases h2
      obtain ⟨a, vs, ev, h3, h4⟩ := w2
      have w1 := flat_rep (H := H) r1 hc.1
      obtain ⟨h5, h6⟩ := inV_reps w1 hc.1 h4 hc.2
      exact .inl ⟨a, vs, ev, .inr (R.T h3), flat_view w1 hc.1, h5, h6⟩
    · cases h2
  | str cs =>
    have w2 : y = V.str _ := w2
    cases q : deref M d with
    | str bs =>
      rw [q] at h
      match bs, h, q with
      | [], h, q => cases h
      | [c], h, q =>
        have w1 : View X.K n Z H (deref M d) x := flat_rep r1 (by rw [q]; rfl)
        rw [q] at w1
        have w1 : x = V.str _ := w1
        refine .inr (.inl ⟨c, ⟨cs.toArray⟩, w1, w2, ?_⟩)
        cases h
        simp
      | _ :: _ :: _, h, q => cases h
    | _ =>
      rw [q] at h
      cases h
  | dct ks vs =>
    have h2 : ((keyF (deref M d)).map fun k => (getK ks vs k).isSome) = some z := by
      cases q : deref M d with
      | str bs =>
        rw [q] at h
        match bs, h with
        | [], h => exact h
        | [c], h => exact h
        | _ :: _ :: _, h => exact h
      | _ =>
        rw [q] at h
        exact h
    cases q : keyF (deref M d) with
    | none =>
      rw [q] at h2
      cases h2
    | some k =>
      rw [q] at h2
      cases h2
      obtain ⟨a, ws, ev, h3, h4, h5⟩ := w2
      have ek := key_rep (H := H) r1 q
      subst ek
      refine .inr (.inr ⟨a, _, ev, DGet.k h3, ?_⟩)
      have g := getK_kvs (k := k) h4 h5
      cases q3 : getK ks vs k with
      | none =>
        rw [q3] at g
        have g : valV ws k.key = none := g
        show _ = (getK ks vs k).isSome
        rw [g, q3] <;> rfl
      | some d =>
        rw [q3] at g
        obtain ⟨v, g, _⟩ := g
        show _ = (getK ks vs k).isSome
        rw [g, q3] <;> rfl
  | non => cases q : deref M d with
    | str bs =>
      rw [q] at h
      match bs, h with
      | [], h => cases h
      | [c], h => cases h
      | _ :: _ :: _, h => cases h
    | _ => rw [q] at h; cases h
  | bl b => cases q : deref M d with
    | str bs =>
      rw [q] at h
      match bs, h with
      | [], h => cases h
      | [c], h => cases h
      | _ :: _ :: _, h => cases h
    | _ => rw [q] at h; cases h
  | int i => cases q : deref M d with
    | str bs =>
      rw [q] at h
      match bs, h with
      | [], h => cases h
      | [c], h => cases h
      | _ :: _ :: _, h => cases h
    | _ => rw [q] at h; cases h
  | ins _ _ _ => cases q : deref M d with
    | str bs =>
      rw [q] at h
      match bs, h with
      | [], h => cases h
      | [c], h => cases h
      | _ :: _ :: _, h => cases h
    | _ => rw [q] at h; cases h
  | loc _ => cases q : deref M d with
    | str bs =>
      rw [q] at h
      match bs, h with
      | [], h => cases h
      | [c], h => cases h
      | _ :: _ :: _, h => cases h
    | _ => rw [q] at h; cases h
  | scr _ => cases q : deref M d with
    | str bs =>
      rw [q] at h
      match bs, h with
      | [], h => cases h
      | [c], h => cases h
      | _ :: _ :: _, h => cases h
    | _ => rw [q] at h; cases h
theorem in_ok (hu : X.A.units + 64 < cLine) : OpR X (compareOp .In) (rP X.K n (cmpF .isin)) := by
  intro pins s σ H x y v u Q I rx ry ⟨Z, M, d, e, z, R, r1, r2, ez, h⟩
  rcases inF_ok R r1 (r2.deref R) ez with ⟨p, xs, ey, h1, h2, h3, h4⟩ | ⟨c, w, ex, ey, h1⟩ | ⟨a, o, ey, g, h1⟩
  · exact op_in_seq pins s σ H x y v u Q I rx ry ⟨p, xs, ey, h1, h2, h3, by rw [if_neg Bool.false_ne_true, h4]; exact h⟩
  · exact op_in_sign pins s σ H x y v u Q I rx ry ⟨c, w, ex, ey, by rw [h1]; exact h⟩
  · subst ey
    obtain rfl : u = Value.ref a := ry
    exact d_in (Nat.lt_of_le_of_lt (by omega) hu) I g rx fun s' I' => ⟨.bl o.isSome, H, I', rfl, by rw [h1]; exact h⟩
theorem notin_ok (hu : X.A.units + 64 < cLine) : OpR X (compareOp .NotIn) (rP X.K n (cmpF .notin)) := by
  intro pins s σ H x y v u Q I rx ry ⟨Z, M, d, e, z, R, r1, r2, ez, h⟩
  have ez2 : inF (deref M d) (deref M e) = some (!z) := map_not ez
  rcases inF_ok R r1 (r2.deref R) ez2 with ⟨p, xs, ey, h1, h2, h3, h4⟩ | ⟨c, w, ex, ey, h1⟩ | ⟨a, o, ey, g, h1⟩
  · exact op_notIn_seq pins s σ H x y v u Q I rx ry ⟨p, xs, ey, h1, h2, h3, by rw [if_pos rfl, h4, Bool.not_not]; exact h⟩
  · exact op_notIn_sign pins s σ H x y v u Q I rx ry ⟨c, w, ex, ey, by rw [h1, Bool.not_not]; exact h⟩
  · subst ey
    obtain rfl : u = Value.ref a := ry
    exact d_notIn (Nat.lt_of_le_of_lt (by omega) hu) I g rx fun s' I' => ⟨.bl (!o.isSome), H, I', rfl, by rw [h1, Bool.not_not]; exact h⟩
def copO : Cop → CmpOp
  | .eq => .Eq
  | .ne => .NotEq
  | .lt => .Lt
  | .le => .LtE
  | .gt => .Gt
  | .ge => .GtE
  | .isin => .In
  | .notin => .NotIn
theorem cmp_ok (hu : X.A.units + 64 < cLine) (op : Cop) : OpR X (compareOp (copO op)) (rP X.K n (cmpF op)) := by
  cases op with
  | eq => exact eq_ok hu
  | ne => exact ne_ok hu
  | lt => exact lt_ok
  | le => exact le_ok
  | gt => exact gt_ok
  | ge => exact ge_ok
  | isin => exact in_ok hu
  | notin => exact notin_ok hu
end
end Lw

set_option Elab.async false
set_option linter.all false
set_option maxRecDepth 100000
set_option maxHeartbeats 1000000
/-! Lw4: built-in functions on trees. -/
namespace Lw
open PySem PySem.Spec PyProof.Rows L2

section
variable {K : PySem.W.Frag} {n : Nm} {Z H : Hp} {M : Mem}
theorem Reps.one_inv {d : D} {vs : List V} (r : Reps K n Z [d] vs) : ∃ v, vs = [v] ∧ Rep K n Z d v := by
  unfold Reps at r
  obtain ⟨v, ws, e, h1, h2⟩ := r
  unfold Reps at h2
  subst h2
  exact ⟨v, e, h1⟩
theorem Reps.two_inv {d e : D} {vs : List V} (r : Reps K n Z [d, e] vs) : ∃ v w, vs = [v, w] ∧ Rep K n Z d v ∧ Rep K n Z e w := by
  unfold Reps at r
  obtain ⟨v, ws, q, h1, h2⟩ := r
  obtain ⟨w, q2, h3⟩ := h2.one_inv
  subst q2
  exact ⟨v, w, q, h1, h3⟩
theorem reps_bls : ∀ {xs : List D} {vs : List V} {bs : List Bool}, Reps K n Z xs vs → blsF xs = some bs → vs = bs.map V.bl
  | [], _, _, r, e => by
    unfold Reps at r
    unfold blsF at e
    cases e
    subst r
    rfl
  | x :: xs, _, bs, r, e => by
    unfold Reps at r
    obtain ⟨v, ws, q, h1, h2⟩ := r
    cases x with
    | bl b =>
      unfold blsF at e
      cases q2 : blsF xs with
      | none =>
        rw [q2] at e
        cases e
      | some cs =>
        rw [q2] at e
        cases e
        unfold Rep at h1
        subst q h1
        rw [reps_bls h2 q2, List.map_cons]
    | _ => cases e
theorem reps_ints : ∀ {xs : List D} {vs : List V} {bs : List Int}, Reps K n Z xs vs → intsF xs = some bs → vs = bs.map V.int
  | [], _, _, r, e => by
    unfold Reps at r
    unfold intsF at e
    cases e
    subst r
    rfl
  | x :: xs, _, bs, r, e => by
    unfold Reps at r
    obtain ⟨v, ws, q, h1, h2⟩ := r
    cases x with
    | int b =>
      unfold intsF at e
      cases q2 : intsF xs with
      | none =>
        rw [q2] at e
        cases e
      | some cs =>
        rw [q2] at e
        cases e
        unfold Rep at h1
        subst q h1
        rw [reps_ints h2 q2, List.map_cons]
    | _ => cases e
theorem reps_strs : ∀ {xs : List D} {vs : List V} {bs : List (List Nat)}, Reps K n Z xs vs → strsF xs = some bs → vs = (bs.map fun c => (⟨c.toArray⟩ : Str)).map V.str
  | [], _, _, r, e => by
    unfold Reps at r
    unfold strsF at e
    cases e
    subst r
    rfl
  | x :: xs, _, bs, r, e => by
    unfold Reps at r
    obtain ⟨v, ws, q, h1, h2⟩ := r
    cases x with
    | str b =>
      unfold strsF at e
      cases q2 : strsF xs with
      | none =>
        rw [q2] at e
        cases e
      | some cs =>
        rw [q2] at e
        cases e
        unfold Rep at h1
        subst q h1
        rw [reps_strs h2 q2, List.map_cons, List.map_cons]
    | _ => cases e
theorem maxL_spec : ∀ {l : List Int}, l ≠ [] → maxL l ∈ l ∧ ∀ y ∈ l, y ≤ maxL l
  | [], h => absurd rfl h
  | [x], _ => ⟨List.mem_singleton.mpr rfl, fun y hy => by
    rw [List.mem_singleton.mp hy]
    exact Int.le_refl _⟩
  | x :: z :: r, _ => by
    obtain ⟨h1, h2⟩ := maxL_spec (l := z :: r) (by simp)
    have e : maxL (x :: z :: r) = if x ≥ maxL (z :: r) then x else maxL (z :: r) := rfl
    rw [e]
    split
    · rename_i hc
      refine ⟨List.mem_cons_self, fun y hy => ?_⟩
      rcases List.mem_cons.mp hy with q | q
      · rw [q]
        exact Int.le_refl _
      · have := h2 y q
        omega
    · rename_i hc
      refine ⟨List.mem_cons_of_mem _ h1, fun y hy => ?_⟩
      rcases List.mem_cons.mp hy with q | q
      · rw [q]
        omega
      · exact h2 y q
theorem minL_spec : ∀ {l : List Int}, l ≠ [] → minL l ∈ l ∧ ∀ y ∈ l, minL l ≤ y
  | [], h => absurd rfl h
  | [x], _ => ⟨List.mem_singleton.mpr rfl, fun y hy => by
    rw [List.mem_singleton.mp hy]
    exact Int.le_refl _⟩
  | x :: z :: r, _ => by
    obtain ⟨h1, h2⟩ := minL_spec (l := z :: r) (by simp)
    have e : minL (x :: z :: r) = if x ≤ minL (z :: r) then x else minL (z :: r) := rfl
    rw [e]
    split
    · rename_i hc
      refine ⟨List.mem_cons_self, fun y hy => ?_⟩
      rcases List.mem_cons.mp hy with q | q
      · rw [q]
        exact Int.le_refl _
      · have := h2 y q
        omega
    · rename_i hc
      refine ⟨List.mem_cons_of_mem _ h1, fun y hy => ?_⟩
      rcases List.mem_cons.mp hy with q | q
      · rw [q]
        omega
      · exact h2 y q
end
section
variable (K : PySem.W.Frag) (n : Nm) (g : G)
/-- a built-in function on trees, by values -/
def rBi (m : Bool) (b : Bi) : List V → Hp → VK → Prop := fun vs H Q => ∃ Z M ds z Qd, Rel K n Z M H ∧ Reps K n Z ds vs ∧ biF g b (ds.map (deref M)) = some z ∧ fin m z M Qd ∧ REnd K n Z Qd Q
end
section
variable {X : Cx} {n : Nm} {g : G} {m : Bool}
theorem len_ok : CallR X (.builtin "len") (rBi X.K n g m .len) := by
  intro pins s σ H xs us Q I rv ⟨Z, M, ds, z, Qd, R, r, e, h, k⟩
  match ds, r, e with
  | [], r, e => cases e
  | _ :: _ :: _, r, e => cases e
  | [d], r, e =>
    obtain ⟨x, ex, rx⟩ := r.one_inv
    subst ex
    have w := rx.deref R
    have e2 : (lenF (deref M d)).map (fun n => D.int (n : Nat)) = some z := e
    generalize deref M d = d' at w e2
    cases q : lenF d' with
    | none =>
      rw [q] at e2
      cases e2
    | some c =>
      rw [q] at e2
      cases e2
      have fv := fin_val (v := .int (c : Nat)) R k rep_int (fun _ q => nomatch q) (fun _ _ q => nomatch q) h
      cases d' with
      | str cs =>
        unfold lenF at q
        simp only at q
        split at q
        · rename_i hl
          cases q
          have w : x = V.str _ := w
          subst w
          exact call_len pins s σ H _ us Q I rv ⟨_, cs.length, rfl, ⟨by rw [str_len]; exact hl, by rw [str_len]⟩, fv⟩
        · cases q
      | tup ys =>
        cases q
        obtain ⟨a, vs, ev, h1, h2⟩ := w
        subst ev
        exact call_len pins s σ H _ us Q I rv ⟨_, ys.length, rfl, .inr ⟨vs, R.T h1, h2.length.symm⟩, fv⟩
      | lst ys =>
        cases q
        obtain ⟨a, vs, ev, h1, h2⟩ := w
        subst ev
        exact call_len pins s σ H _ us Q I rv ⟨_, ys.length, rfl, .inl ⟨vs, SqL.of h1, h2.length.symm⟩, fv⟩
      | scr ns =>
        cases q
        obtain ⟨a, ev, h1⟩ := w
        subst ev
        exact call_len pins s σ H _ us Q I rv ⟨_, ns.length, rfl, .inl ⟨_, h1, by rw [List.length_map]⟩, fv⟩
      | dct ks vs =>
        cases q
        obtain ⟨a, ws, ev, h1, h2, h3⟩ := w
        subst ev
        obtain ⟨u, eu, ru⟩ := vals1 rv
        subst eu
        obtain rfl : u = Value.ref a := ru
        have hl : ws.length = ks.length := by
          have := congrArg List.length h2
          rw [List.length_map, List.length_map] at this
          exact this
        refine d_len I (.inl h1) fun t s' I' => ⟨.int (ks.length : Nat), H, I', ⟨t, by rw [hl]⟩, fv⟩
      | non => cases q
      | bl _ => cases q
      | int _ => cases q
      | ins _ _ _ => cases q
      | loc _ => cases q
theorem all_ok (hc : X.calm = true) : CallR X (.builtin "all") (rBi X.K n g m .all) := by
  intro pins s σ H xs us Q I rv ⟨Z, M, ds, z, Qd, R, r, e, h, k⟩
  match ds, r, e with
  | [], r, e => cases e
  | _ :: _ :: _, r, e => cases e
  | [d], r, e =>
    obtain ⟨x, ex, rx⟩ := r.one_inv
    subst ex
    have w := rx.deref R
    have e : allF (deref M d) = some z := e
    generalize deref M d = d' at w e
    cases d' with
    | lst ys =>
      have e2 : (blsF ys).map (fun bs => D.bl (bs.all id)) = some z := e
      cases q : blsF ys with
      | none =>
        rw [q] at e2
        cases e2
      | some bs =>
        rw [q] at e2
        cases e2
        obtain ⟨a, vs, ev, h1, h2⟩ := w
        subst ev
        have eb := reps_bls h2 q
        subst eb
        exact cr_all hc pins s σ H _ us Q I rv ⟨a, bs, rfl, SqL.of h1, fin_val R k rep_bl (fun _ q => nomatch q) (fun _ _ q => nomatch q) h⟩
    | _ => cases e
theorem any_ok (hc : X.calm = true) : CallR X (.builtin "any") (rBi X.K n g m .any) := by
  intro pins s σ H xs us Q I rv ⟨Z, M, ds, z, Qd, R, r, e, h, k⟩
  match ds, r, e with
  | [], r, e => cases e
  | _ :: _ :: _, r, e => cases e
  | [d], r, e =>
    obtain ⟨x, ex, rx⟩ := r.one_inv
    subst ex
    have w := rx.deref R
    have e : anyF (deref M d) = some z := e
    generalize deref M d = d' at w e
    cases d' with
    | lst ys =>
      have e2 : (blsF ys).map (fun bs => D.bl (bs.any id)) = some z := e
      cases q : blsF ys with
      | none =>
        rw [q] at e2
        cases e2
      | some bs =>
        rw [q] at e2
        cases e2
        obtain ⟨a, vs, ev, h1, h2⟩ := w
        subst ev
        have eb := reps_bls h2 q
        subst eb
        exact cr_any hc pins s σ H _ us Q I rv ⟨a, bs, rfl, SqL.of h1, fin_val R k rep_bl (fun _ q => nomatch q) (fun _ _ q => nomatch q) h⟩
    | _ => cases e
theorem tuple_ok : CallR X (.type "tuple") (rBi X.K n g m .tuple) := by
  intro pins s σ H xs us Q I rv ⟨Z, M, ds, z, Qd, R, r, e, h, k⟩
  match ds, r, e with
  | [], r, e => cases e
  | _ :: _ :: _, r, e => cases e
  | [d], r, e =>
    obtain ⟨x, ex, rx⟩ := r.one_inv
    subst ex
    have w := rx.deref R
    have e : tupleF (deref M d) = some z := e
    generalize deref M d = d' at w e
    cases d' with
    | lst ys =>
      cases e
      obtain ⟨a, vs, ev, h1, h2⟩ := w
      subst ev
      exact call_tuple_of pins s σ H _ us Q I rv ⟨a, vs, rfl, .inl ⟨SqL.of h1, fun l hl => fin_tup R k h2 h hl⟩⟩
    | tup ys =>
      cases e
      obtain ⟨a, vs, ev, h1, h2⟩ := w
      subst ev
      exact call_tuple_of pins s σ H _ us Q I rv ⟨a, vs, rfl, .inr ⟨R.T h1, fin_val R k (rep_tupT h1 h2) (fun _ q => nomatch q) (fun _ _ q => nomatch q) h⟩⟩
    | _ => cases e
theorem int_ok : CallR X (.type "int") (rBi X.K n g m .int) := by
  intro pins s σ H xs us Q I rv ⟨Z, M, ds, z, Qd, R, r, e, h, k⟩
  match ds, r, e with
  | [], r, e => cases e
  | _ :: _ :: _, r, e => cases e
  | [d], r, e =>
    obtain ⟨x, ex, rx⟩ := r.one_inv
    subst ex
    have w := rx.deref R
    have e : intF (deref M d) = some z := e
    generalize deref M d = d' at w e
    cases d' with
    | int i =>
      cases e
      have w : x = V.int _ := w
      subst w
      exact call_int1 pins s σ H _ us Q I rv (.inl ⟨i, rfl, fin_val R k rep_int (fun _ q => nomatch q) (fun _ _ q => nomatch q) h⟩)
    | _ => cases e
theorem abs_ok : CallR X (.builtin "abs") (rBi X.K n g m .abs) := by
  intro pins s σ H xs us Q I rv ⟨Z, M, ds, z, Qd, R, r, e, h, k⟩
  match ds, r, e with
  | [], r, e => cases e
  | _ :: _ :: _, r, e => cases e
  | [d], r, e =>
    obtain ⟨x, ex, rx⟩ := r.one_inv
    subst ex
    have w := rx.deref R
    have e : absF (deref M d) = some z := e
    generalize deref M d = d' at w e
    cases d' with
    | int i =>
      cases e
      have w : x = V.int _ := w
      subst w
      exact call_abs pins s σ H _ us Q I rv ⟨i, rfl, fin_val R k rep_int (fun _ q => nomatch q) (fun _ _ q => nomatch q) h⟩
    | _ => cases e
theorem numS_str (i : Int) : (Str.ofString (toString i)) = ⟨(numS i).toArray⟩ := by
  apply TL.ext_tl
  rw [TL.tl_ofString, TL.tl_mk]
  rfl
theorem str_ok : CallR X (.type "str") (rBi X.K n g m .str) := by
  intro pins s σ H xs us Q I rv ⟨Z, M, ds, z, Qd, R, r, e, h, k⟩
  match ds, r, e with
  | [], r, e => cases e
  | _ :: _ :: _, r, e => cases e
  | [d], r, e =>
    obtain ⟨x, ex, rx⟩ := r.one_inv
    subst ex
    have w := rx.deref R
    have e : strF (deref M d) = some z := e
    generalize deref M d = d' at w e
    cases d' with
    | int i =>
      have e : (if i.natAbs.log2 < 1920 then some (D.str (numS i)) else none) = some z := e
      split at e
      · rename_i hl
        cases e
        have w : x = V.int _ := w
        subst w
        refine call_str_int pins s σ H _ us Q I rv ⟨i, rfl, hl, ?_⟩
        show Q (.str (Str.ofString (toString i))) H
        rw [numS_str]
        exact fin_val R k rep_str (fun _ q => nomatch q) (fun _ _ q => nomatch q) h
      · cases e
    | _ => cases e
theorem min2_ok (hc : X.calm = true) : CallR X (.builtin "min") (rBi X.K n g m .min2) := by
  intro pins s σ H xs us Q I rv ⟨Z, M, ds, z, Qd, R, r, e, h, k⟩
  match ds, r, e with
  | [], r, e => cases e
  | [_], r, e => cases e
  | _ :: _ :: _ :: _, r, e => cases e
  | [d, d2], r, e =>
    obtain ⟨x, y, ex, rx, ry⟩ := r.two_inv
    subst ex
    have w1 := rx.deref R
    have w2 := ry.deref R
    have e : min2F (deref M d) (deref M d2) = some z := e
    generalize deref M d = d' at w1 e
    generalize deref M d2 = e' at w2 e
    cases d' with
    | int i =>
      cases e' with
      | int j =>
        cases e
        have w1 : x = V.int _ := w1
        have w2 : y = V.int _ := w2
        subst w1 w2
        exact call_min2 hc pins s σ H _ us Q I rv ⟨i, j, rfl, fin_val R k rep_int (fun _ q => nomatch q) (fun _ _ q => nomatch q) h⟩
      | _ => cases e
    | _ => cases e
theorem max2_ok (hc : X.calm = true) : CallR X (.builtin "max") (rBi X.K n g m .max2) := by
  intro pins s σ H xs us Q I rv ⟨Z, M, ds, z, Qd, R, r, e, h, k⟩
  match ds, r, e with
  | [], r, e => cases e
  | [_], r, e => cases e
  | _ :: _ :: _ :: _, r, e => cases e
  | [d, d2], r, e =>
    obtain ⟨x, y, ex, rx, ry⟩ := r.two_inv
    subst ex
    have w1 := rx.deref R
    have w2 := ry.deref R
    have e : max2F (deref M d) (deref M d2) = some z := e
    generalize deref M d = d' at w1 e
    generalize deref M d2 = e' at w2 e
    cases d' with
    | int i =>
      cases e' with
      | int j =>
        cases e
        have w1 : x = V.int _ := w1
        have w2 : y = V.int _ := w2
        subst w1 w2
        exact call_max2 hc pins s σ H _ us Q I rv ⟨i, j, rfl, fin_val R k rep_int (fun _ q => nomatch q) (fun _ _ q => nomatch q) h⟩
      | _ => cases e
    | _ => cases e
theorem maxl_ok (hc : X.calm = true) : CallR X (.builtin "max") (rBi X.K n g m .maxl) := by
  intro pins s σ H xs us Q I rv ⟨Z, M, ds, z, Qd, R, r, e, h, k⟩
  match ds, r, e with
  | [], r, e => cases e
  | _ :: _ :: _, r, e => cases e
  | [d], r, e =>
    obtain ⟨x, ex, rx⟩ := r.one_inv
    subst ex
    have w := rx.deref R
    have e : maxlF (deref M d) = some z := e
    generalize deref M d = d' at w e
    cases d' with
    | lst ys =>
      have e2 : (intsF ys).bind (fun is => if is = [] then none else some (D.int (maxL is))) = some z := e
      cases q : intsF ys with
      | none =>
        rw [q] at e2
        cases e2
      | some bs =>
        rw [q] at e2
        have e2 : (if bs = [] then none else some (D.int (maxL bs))) = some z := e2
        split at e2
        · cases e2
        · rename_i hne
          cases e2
          obtain ⟨a, vs, ev, h1, h2⟩ := w
          subst ev
          have eb := reps_ints h2 q
          subst eb
          have sp := maxL_spec hne
          refine cr_max hc pins s σ H _ us Q I rv ⟨a, bs, rfl, SqL.of h1, List.length_pos_iff.mpr hne, fun t ht hle => ?_⟩
          have e3 : t = maxL bs := Int.le_antisymm (sp.2 t ht) (hle _ sp.1)
          rw [e3]
          exact fin_val R k rep_int (fun _ q => nomatch q) (fun _ _ q => nomatch q) h
    | _ => cases e
theorem minl_ok (hc : X.calm = true) : CallR X (.builtin "min") (rBi X.K n g m .minl) := by
  intro pins s σ H xs us Q I rv ⟨Z, M, ds, z, Qd, R, r, e, h, k⟩
  match ds, r, e with
  | [], r, e => cases e
  | _ :: _ :: _, r, e => cases e
  | [d], r, e =>
    obtain ⟨x, ex, rx⟩ := r.one_inv
    subst ex
    have w := rx.deref R
    have e : minlF (deref M d) = some z := e
    generalize deref M d = d' at w e
    cases d' with
    | lst ys =>
      have e2 : (intsF ys).bind (fun is => if is = [] then none else some (D.int (minL is))) = some z := e
      cases q : intsF ys with
      | none =>
        rw [q] at e2
        cases e2
      | some bs =>
        rw [q] at e2
        have e2 : (if bs = [] then none else some (D.int (minL bs))) = some z := e2
        split at e2
        · cases e2
        · rename_i hne
          cases e2
          obtain ⟨a, vs, ev, h1, h2⟩ := w
          subst ev
          have eb := reps_ints h2 q
          subst eb
          have sp := minL_spec hne
          refine cr_min hc pins s σ H _ us Q I rv ⟨a, bs, rfl, SqL.of h1, List.length_pos_iff.mpr hne, fun t ht hle => ?_⟩
          have e3 : t = minL bs := Int.le_antisymm (hle _ sp.1) (sp.2 t ht)
          rw [e3]
          exact fin_val R k rep_int (fun _ q => nomatch q) (fun _ _ q => nomatch q) h
    | _ => cases e
theorem sum_ok (hc : X.calm = true) : CallR X (.builtin "sum") (rBi X.K n g m .sum) := by
  intro pins s σ H xs us Q I rv ⟨Z, M, ds, z, Qd, R, r, e, h, k⟩
  match ds, r, e with
  | [], r, e => cases e
  | _ :: _ :: _, r, e => cases e
  | [d], r, e =>
    obtain ⟨x, ex, rx⟩ := r.one_inv
    subst ex
    have w := rx.deref R
    have e : sumF (deref M d) = some z := e
    generalize deref M d = d' at w e
    cases d' with
    | lst ys =>
      have e2 : (intsF ys).map (fun is => D.int is.sum) = some z := e
      cases q : intsF ys with
      | none =>
        rw [q] at e2
        cases e2
      | some bs =>
        rw [q] at e2
        cases e2
        obtain ⟨a, vs, ev, h1, h2⟩ := w
        subst ev
        have eb := reps_ints h2 q
        subst eb
        exact cr_sum hc pins s σ H _ us Q I rv ⟨a, bs, rfl, SqL.of h1, fin_val R k rep_int (fun _ q => nomatch q) (fun _ _ q => nomatch q) h⟩
    | _ => cases e
theorem list_ok (hc : X.calm = true) : CallR X (.type "list") (rBi X.K n g m .list) := by
  intro pins s σ H xs us Q I rv ⟨Z, M, ds, z, Qd, R, r, e, h, k⟩
  match ds, r, e with
  | [], r, e => cases e
  | _ :: _ :: _, r, e => cases e
  | [d], r, e =>
    obtain ⟨x, ex, rx⟩ := r.one_inv
    subst ex
    have w := rx.deref R
    have e : listF (deref M d) = some z := e
    generalize deref M d = d' at w e
    cases d' with
    | lst ys =>
      cases e
      obtain ⟨a, vs, ev, h1, h2⟩ := w
      subst ev
      exact call_list_of pins s σ H _ us Q I rv ⟨a, vs, rfl, .inl (SqL.of h1), fun l hl => fin_lst R k h2 h hl⟩
    | tup ys =>
      cases e
      obtain ⟨a, vs, ev, h1, h2⟩ := w
      subst ev
      exact call_list_of pins s σ H _ us Q I rv ⟨a, vs, rfl, .inr (R.T h1), fun l hl => fin_lst R k h2 h hl⟩
    | scr ns =>
      cases e
      obtain ⟨a, ev, h1⟩ := w
      subst ev
      exact call_list_of pins s σ H _ us Q I rv ⟨a, _, rfl, .inl h1, fun l hl => fin_lst R k (Reps.ints rfl) h hl⟩
    | str cs =>
      have e : (if cs.length ≤ lim then some (D.lst (cs.map fun c => D.str [c])) else none) = some z := e
      split at e
      · rename_i hl
        cases e
        have w : x = V.str _ := w
        subst w
        obtain ⟨u, eu, ru⟩ := vals1 rv
        subst eu
        obtain ⟨t, rfl⟩ := ru
        refine call_list_str (I.ok.hd hc) _ t (fun h' tk acc c hk ha hi => ?_) (by show cs.toArray.size ≤ sizeLine; simpa using hl)
        have hp := I.hok.fresh (Nat.le_refl s.heap.objs.size)
        have hlen : acc.size = cs.length := by
          rw [hi.1]
          simp
        have rv2 : Vals (cs.map fun c => V.str ⟨#[c]⟩) acc.toList := by
          refine vals_of_at (by simpa using hlen.symm) fun j x u hx hu => ?_
          rw [List.getElem?_map] at hx
          cases hj : cs[j]? with
          | none =>
            rw [hj] at hx
            cases hx
          | some c =>
            rw [hj] at hx
            cases hx
            obtain ⟨c2, t2, e3, e4⟩ := hi.2 j u (by simpa using hu)
            have e5 : cs[j]? = some c2 := by simpa using e3
            rw [hj] at e5
            cases e5
            exact ⟨t2, e4⟩
        refine ⟨.ref s.heap.objs.size, _, I.laid (t' := tk) (o := .lst (cs.map fun c => V.str ⟨#[c]⟩)) hk (Nat.le_refl _) ⟨by simpa using hl, acc.toList, c, rv2, by simpa using ha⟩, rfl, fin_lst R k (Reps.map (fun c => by unfold Rep; rfl) cs) h hp⟩
      · cases e
    | _ => cases e
end
end Lw

set_option Elab.async false
set_option linter.all false
set_option maxRecDepth 100000
set_option maxHeartbeats 1000000
/-! Lw5: subscripts, slices, methods of built-in types, on trees. -/
namespace Lw
open PySem PySem.Spec PyProof.Rows L2

section
variable {K : PySem.W.Frag} {n : Nm} {Z H : Hp} {M : Mem}
theorem Reps.at {ds : List D} {vs : List V} {i : Int} {d : D} (r : Reps K n Z ds vs) (e : atI ds i = some d) : ∃ v, atI vs i = some v ∧ Rep K n Z d v := by
  unfold atI at e ⊢
  rw [r.length]
  cases q : ixN ds.length i with
  | none =>
    rw [q] at e
    cases e
  | some j =>
    rw [q] at e
    obtain ⟨v, h1, h2⟩ := r.get (i := j) e
    exact ⟨v, h1, h2⟩
theorem Reps.cut {ds : List D} {vs : List V} (lo hi : Option Int) (r : Reps K n Z ds vs) : Reps K n Z (cutA ds lo hi) (cutV vs lo hi) := by
  unfold cutA cutV
  rw [r.length]
  exact Reps.take _ (Reps.drop _ r)
theorem cut_whole {α : Type} {xs : List α} {lo hi : Option Int} (h : HT.sIx xs.length 0 lo = 0 ∧ HT.sIx xs.length xs.length hi = xs.length) : cutA xs lo hi = xs := by
  unfold cutA
  rw [h.1, h.2, List.drop_zero, Nat.sub_zero, List.take_length]
theorem atI_map {α β : Type} (f : α → β) (xs : List α) (i : Int) : atI (xs.map f) i = (atI xs i).map f := by
  unfold atI
  rw [List.length_map]
  cases q : ixN xs.length i with
  | none => rfl
  | some j =>
    show (xs.map f)[j]? = (xs[j]?).map f
    rw [List.getElem?_map]
theorem rep_ints_at {is : List Int} {a : Addr} (h : SqL K Z a (is.map V.int)) : Rep K n Z (.scr is) (.ref a) := by
  unfold Rep
  exact ⟨a, rfl, h⟩
end
section
variable (K : PySem.W.Frag) (n : Nm)
def rIdx : R2 := fun x y H Q => ∃ Z M d e z Qd, Rel K n Z M H ∧ Rep K n Z d x ∧ Rep K n Z e y ∧ idxF (deref M d) e = some z ∧ Qd z M ∧ REnd K n Z Qd Q
def rSlD (m : Bool) : V → Option Int → Option Int → Hp → VK → Prop := fun x lo hi H Q => ∃ Z M d z Qd, Rel K n Z M H ∧ Rep K n Z d x ∧ slF (deref M d) lo hi = some z ∧ fin m z M Qd ∧ REnd K n Z Qd Q
def rBm (m : Bool) (b : Bm) : V → List V → Hp → VK → Prop := fun x xs H Q => ∃ Z M d ds Qd, Rel K n Z M H ∧ Rep K n Z d x ∧ Reps K n Z ds xs ∧ bmW m b d ds M Qd ∧ REnd K n Z Qd Q
end
section
variable {X : Cx} {n : Nm} {m : Bool}
/-- d[k] as a subscript -/
theorem ix_dict (hu : X.A.units + 1 < cLine) : IxR X (fun x y H Q => ∃ a v, x = .ref a ∧ DGet H a y (some v) ∧ Q v H) := by
  intro value slice pins s σ H x y v u Q I rx ry h hs
  obtain ⟨a, w, ex, g, q⟩ := h
  subst ex
  obtain rfl : v = Value.ref a := rx
  exact tail_any (ops := [.ref a, u]) (dict_typeIs I g) PySem.F.slot_dict_getitem.lookup (d_getItem hu I g ry fun w' s3 I3 rw' => ⟨w, H, I3, rw', q⟩) hs
theorem idx_ok (hu : X.A.units + 1 < cLine) : IxR X (rIdx X.K n) := by
  intro value slice pins s σ H x y v u Q I rx ry ⟨Z, M, d, e, z, Qd, R, r1, r2, ez, h, k⟩ hs
  have w := r1.deref R
  generalize deref M d = d' at w ez
  cases d' with
  | lst ys =>
    cases e with
    | int i =>
      have ez : atI ys i = some z := ez
      unfold Rep at r2
      subst r2
      obtain ⟨a, vs, ev, h1, h2⟩ := w
      obtain ⟨t, h3, h4⟩ := h2.at ez
      exact ix_list value slice pins s σ H x _ v u Q I rx ry ⟨a, vs, i, t, ev, rfl, SqL.of h1, h3, k Z M H z t (Same.refl Z) R h4 h⟩ hs
    | _ => cases ez
  | tup ys =>
    cases e with
    | int i =>
      have ez : atI ys i = some z := ez
      unfold Rep at r2
      subst r2
      obtain ⟨a, vs, ev, h1, h2⟩ := w
      obtain ⟨t, h3, h4⟩ := h2.at ez
      exact ix_tup value slice pins s σ H x _ v u Q I rx ry ⟨a, vs, i, t, ev, rfl, R.T h1, h3, k Z M H z t (Same.refl Z) R h4 h⟩ hs
    | _ => cases ez
  | str cs =>
    cases e with
    | int i =>
      have ez : (if cs.length ≤ lim then (atI cs i).map fun c => D.str [c] else none) = some z := ez
      split at ez
      · rename_i hl
        unfold Rep at r2
        subst r2
        have w : x = V.str _ := w
        cases q : atI cs i with
        | none =>
          rw [q] at ez
          cases ez
        | some c =>
          rw [q] at ez
          cases ez
          refine ix_str value slice pins s σ H x _ v u Q I rx ry ⟨_, i, c, w, rfl, by rw [str_len]; exact hl, by simpa using q, ?_⟩ hs
          exact k Z M H _ _ (Same.refl Z) R rep_str h
      · cases ez
    | _ => cases ez
  | dct ks vs =>
    have ez : ((keyF e).bind fun k => getK ks vs k) = some z := ez
    cases q : keyF e with
    | none =>
      rw [q] at ez
      cases ez
    | some kk =>
      rw [q] at ez
      have ez : getK ks vs kk = some z := ez
      have ek := keyF_view (H := H) r2 q
      subst ek
      obtain ⟨a, ws, ev, h1, h2, h3⟩ := w
      have g := getK_kvs (k := kk) h2 h3
      rw [ez] at g
      obtain ⟨t, g1, g2⟩ := g
      refine ix_dict hu value slice pins s σ H x _ v u Q I rx ry ⟨a, t, ev, ?_, k Z M H z t (Same.refl Z) R g2 h⟩ hs
      rw [← g1]
      exact DGet.k h1
  | _ => cases ez
theorem sl_ok : SlR X (rSlD X.K n m) := by
  intro pins s σ H x v vl vu lo hi sl Q I rx hs pl pu ⟨Z, M, d, z, Qd, R, r1, ez, h, k⟩
  have w := r1.deref R
  generalize deref M d = d' at w ez
  cases d' with
  | lst ys =>
    cases ez
    obtain ⟨a, vs, ev, h1, h2⟩ := w
    exact sl_list pins s σ H x v vl vu lo hi sl Q I rx hs pl pu ⟨a, vs, ev, SqL.of h1, fun p hp => fin_lst R k (h2.cut lo hi) h hp⟩
  | tup ys =>
    cases ez
    obtain ⟨a, vs, ev, h1, h2⟩ := w
    refine sl_tupA pins s σ H x v vl vu lo hi sl Q I rx hs pl pu ⟨a, vs, ev, R.T h1, fun hw => ?_, fun _ p hp => fin_tup R k (h2.cut lo hi) h hp⟩
    rw [h2.length] at hw
    rw [cut_whole hw] at h
    exact fin_val R k (rep_tupT h1 h2) (fun _ q => nomatch q) (fun _ _ q => nomatch q) h
  | str cs =>
    have ez : (if cs.length ≤ lim then some (D.str (cutA cs lo hi)) else none) = some z := ez
    split at ez
    · rename_i hl
      cases ez
      have w : x = V.str _ := w
      refine sl_str pins s σ H x v vl vu lo hi sl Q I rx hs pl pu ⟨_, w, by rw [str_len]; exact hl, ?_⟩
      have e : cutS ⟨cs.toArray⟩ lo hi = ⟨(cutA cs lo hi).toArray⟩ := by
        unfold cutS cutA
        rw [str_len]
      rw [e]
      exact fin_val R k rep_str (fun _ q => nomatch q) (fun _ _ q => nomatch q) h
    · cases ez
  | scr ns =>
    cases ez
    obtain ⟨a, ev, h1⟩ := w
    refine sl_list pins s σ H x v vl vu lo hi sl Q I rx hs pl pu ⟨a, _, ev, h1, fun p hp => fin_lst R k (Reps.cut lo hi (Reps.ints rfl)) h hp⟩
  | _ => cases ez
/-! ### methods -/
theorem lstAt_some {M : Mem} {a : Addr} {xs : List D} (h : lstAt M a = some xs) : M a = some (.lst xs) := by
  unfold lstAt at h
  split at h
  · rename_i ys e
    cases h
    exact e
  · cases h
theorem append_ok : MtR X "list.append" (rBm X.K n m .append) := by
  intro pins s σ H x xs v us Q I rx rv ⟨Z, M, d, ds, Qd, R, r1, rs, h, k⟩
  cases d with
  | loc a =>
    obtain ⟨ys, e1, h⟩ := opt_elim (show opt (lstAt M a) _ from h)
    obtain ⟨p, e2, h⟩ := opt_elim h
    have hm := lstAt_some e1
    obtain ⟨hz, vs, h1, h2⟩ := R.may a _ hm
    unfold Rep at r1
    subst r1
    match ds, rs, e2 with
    | [], rs, e2 => cases e2
    | _ :: _ :: _, rs, e2 => cases e2
    | [y], rs, e2 =>
      obtain ⟨w, ew, rw'⟩ := rs.one_inv
      subst ew
      have e2 : (if ys.length < lim then some (D.non, ys ++ [y]) else none) = some p := e2
      split at e2
      · rename_i hl
        cases e2
        refine mt_append pins s σ H _ _ v us Q I rx rv ⟨a, vs, w, rfl, rfl, h1, by rw [h2.length]; exact hl, ?_⟩
        have ro : RepO X.K n Z (upd H a (.lst (vs ++ [w]))) a (.lst (ys ++ [y])) := ⟨_, upd_same, h2.append (Reps.one rw')⟩
        exact k Z _ _ .non .non (Same.refl Z) (R.put hz ro) rep_non h
      · cases e2
  | _ => exact (show False from h).elim
theorem extend_ok : MtR X "list.extend" (rBm X.K n m .extend) := by
  intro pins s σ H x xs v us Q I rx rv ⟨Z, M, d, ds, Qd, R, r1, rs, h, k⟩
  cases d with
  | loc a =>
    obtain ⟨ys, e1, h⟩ := opt_elim (show opt (lstAt M a) _ from h)
    obtain ⟨p, e2, h⟩ := opt_elim h
    have hm := lstAt_some e1
    obtain ⟨hz, vs, h1, h2⟩ := R.may a _ hm
    unfold Rep at r1
    subst r1
    match ds, rs, e2 with
    | [], rs, e2 => cases e2
    | _ :: _ :: _, rs, e2 => cases e2
    | [y], rs, e2 =>
      obtain ⟨w, ew, rw'⟩ := rs.one_inv
      subst ew
      have vw := rw'.deref R
      have e2 : extF ys (deref M y) = some p := e2
      generalize deref M y = y' at vw e2
      cases y' with
      | lst zs =>
        have e2 : (if ys.length + zs.length ≤ lim then some (D.non, ys ++ zs) else none) = some p := e2
        split at e2
        · rename_i hl
          cases e2
          obtain ⟨b, ws, ev, h3, h4⟩ := vw
          subst ev
          refine mt_extend pins s σ H _ _ v us Q I rx rv ⟨a, b, vs, ws, rfl, rfl, h1, h3, by rw [h2.length, h4.length]; exact hl, ?_⟩
          have ro : RepO X.K n Z (upd H a (.lst (vs ++ ws))) a (.lst (ys ++ zs)) := ⟨_, upd_same, h2.append h4⟩
          exact k Z _ _ .non .non (Same.refl Z) (R.put hz ro) rep_non h
        · cases e2
      | _ => cases e2
  | _ => exact (show False from h).elim
theorem popAt_ok : MtR X "list.pop" (rBm X.K n m .popAt) := by
  intro pins s σ H x xs v us Q I rx rv ⟨Z, M, d, ds, Qd, R, r1, rs, h, k⟩
  cases d with
  | loc a =>
    obtain ⟨ys, e1, h⟩ := opt_elim (show opt (lstAt M a) _ from h)
    obtain ⟨p, e2, h⟩ := opt_elim h
    have hm := lstAt_some e1
    obtain ⟨hz, vs, h1, h2⟩ := R.may a _ hm
    unfold Rep at r1
    subst r1
    match ds, rs, e2 with
    | [], rs, e2 => cases e2
    | _ :: _ :: _, rs, e2 => cases e2
    | [y], rs, e2 =>
      obtain ⟨w, ew, rw'⟩ := rs.one_inv
      subst ew
      have e2 : popF ys y = some p := e2
      cases y with
      | int i =>
        have e2 : (if -(2 ^ 63) ≤ i ∧ i < 2 ^ 63 then (seqIndex? i ys.length).bind fun k => (ys[k]?).map fun y => (y, ys.eraseIdx k) else none) = some p := e2
        split at e2
        · rename_i hb
          unfold Rep at rw'
          subst rw'
          cases q : seqIndex? i ys.length with
          | none =>
            rw [q] at e2
            cases e2
          | some j =>
            rw [q] at e2
            cases q2 : ys[j]? with
            | none =>
              have e2 : (ys[j]?).map (fun y => (y, ys.eraseIdx j)) = some p := e2
              rw [q2] at e2
              cases e2
            | some y =>
              have e2 : (ys[j]?).map (fun y => (y, ys.eraseIdx j)) = some p := e2
              rw [q2] at e2
              cases e2
              obtain ⟨t, h3, h4⟩ := h2.get q2
              refine mt_popAt pins s σ H _ _ v us Q I rx rv ⟨a, vs, i, j, t, rfl, rfl, h1, hb.1, hb.2, by rw [h2.length]; exact q, h3, ?_⟩
              have ro : RepO X.K n Z (upd H a (.lst (vs.eraseIdx j))) a (.lst (ys.eraseIdx j)) := ⟨_, upd_same, h2.eraseIdx j⟩
              exact k Z _ _ y t (Same.refl Z) (R.put hz ro) h4 h
        · cases e2
      | _ => cases e2
  | _ => exact (show False from h).elim
theorem join_ok : MtR X "str.join" (rBm X.K n m .join) := by
  intro pins s σ H x xs v us Q I rx rv ⟨Z, M, d, ds, Qd, R, r1, rs, h, k⟩
  obtain ⟨z, e1, h⟩ := opt_elim (show opt (bmF .join (deref M d) (ds.map fun y => deref M y)) fun z => fin m z M Qd from h)
  match ds, rs, e1 with
  | [], rs, e1 => cases e1
  | _ :: _ :: _, rs, e1 => cases e1
  | [y], rs, e1 =>
    obtain ⟨w, ew, rw'⟩ := rs.one_inv
    subst ew
    have v1 := r1.deref R
    have v2 := rw'.deref R
    have e1 : joinF (deref M d) (deref M y) = some z := e1
    generalize deref M d = d' at v1 e1
    generalize deref M y = y' at v2 e1
    cases d' with
    | str sp =>
      cases y' with
      | lst zs =>
        have e1 : (strsF zs).bind (fun ps => if (ps.map (·.length)).sum + ps.length * sp.length ≤ 16777216 then some (D.str (TL.joinL sp ps)) else none) = some z := e1
        cases q : strsF zs with
        | none =>
          rw [q] at e1
          cases e1
        | some ps =>
          rw [q] at e1
          have e1 : (if (ps.map (·.length)).sum + ps.length * sp.length ≤ 16777216 then some (D.str (TL.joinL sp ps)) else none) = some z := e1
          split at e1
          · rename_i hl
            cases e1
            have v1 : x = V.str _ := v1
            subst v1
            obtain ⟨b, ws, ev, h3, h4⟩ := v2
            subst ev
            have es := reps_strs h4 q
            subst es
            refine mt_join pins s σ H _ _ v us Q I rx rv ⟨_, b, _, rfl, rfl, .inl (SqL.of h3), ?_, ?_⟩
            · rw [List.map_map, List.length_map, str_len]
              have e2 : ps.map ((fun (z : Str) => z.length) ∘ fun c => (⟨c.toArray⟩ : Str)) = ps.map (·.length) := List.map_congr_left fun c _ => str_len c
              rw [e2]
              exact hl
            · have e3 : Txt.join ⟨sp.toArray⟩ (ps.map fun c => (⟨c.toArray⟩ : Str)) = ⟨(TL.joinL sp ps).toArray⟩ := by
                apply TL.ext_tl
                rw [TL.join_eq, TL.tl_join, TL.tl_mk, TL.tl_mk, List.map_map]
                have e4 : ps.map (TL.tl ∘ fun c => (⟨c.toArray⟩ : Str)) = ps := by
                  have : ps.map (TL.tl ∘ fun c => (⟨c.toArray⟩ : Str)) = ps.map id := List.map_congr_left fun c _ => TL.tl_mk c
                  rw [this, List.map_id]
                rw [e4]
              rw [e3]
              exact fin_val R k rep_str (fun _ q => nomatch q) (fun _ _ q => nomatch q) h
          · cases e1
      | _ => cases e1
    | _ => cases e1
theorem strs_reps {Z : Hp} : ∀ (ys : List Str), Reps X.K n Z ((ys.map TL.tl).map D.str) (ys.map V.str)
  | [] => Reps.nil
  | y :: ys => Reps.cons (by
      unfold Rep
      rw [TL.mk_tl]) (strs_reps ys)
theorem split_ok : MtR X "str.split" (rBm X.K n m .split) := by
  intro pins s σ H x xs v us Q I rx rv ⟨Z, M, d, ds, Qd, R, r1, rs, h, k⟩
  obtain ⟨z, e1, h⟩ := opt_elim (show opt (bmF .split (deref M d) (ds.map fun y => y)) fun z => fin m z M Qd from h)
  match ds, rs, e1 with
  | [], rs, e1 => cases e1
  | _ :: _ :: _, rs, e1 => cases e1
  | [y], rs, e1 =>
    obtain ⟨w, ew, rw'⟩ := rs.one_inv
    subst ew
    have v1 := r1.deref R
    have e1 : splitF (deref M d) y = some z := e1
    generalize deref M d = d' at v1 e1
    cases d' with
    | str cs =>
      cases y with
      | str ss =>
        match ss, e1, rw' with
        | [], e1, _ => cases e1
        | _ :: _ :: _, e1, _ => cases e1
        | [c], e1, rw' =>
          have e1 : (if cs.length + 2 ≤ lim ∧ c < 128 then some (D.lst ((TL.spl [c] 0 [] cs).map D.str)) else none) = some z := e1
          split at e1
          · rename_i hc
            cases e1
            have v1 : x = V.str _ := v1
            unfold Rep at rw'
            subst v1 rw'
            refine mt_split pins s σ H _ _ v us Q I rx rv ⟨_, _, rfl, rfl, rfl, by rw [str_len]; exact hc.1, fun p hp => ?_⟩
            have e2 : (Txt.split ⟨cs.toArray⟩ ⟨[c].toArray⟩).map TL.tl = TL.spl [c] 0 [] cs := by
              have e3 := TL.split_spl ⟨cs.toArray⟩ ⟨[c].toArray⟩ (by rw [TL.tl_mk]; exact List.cons_ne_nil _ _) (TL.kind_ok (by simp; omega))
              rw [TL.tl_mk, TL.tl_mk] at e3
              exact e3
            rw [← e2] at h
            exact fin_lst R k (strs_reps _) h hp
          · cases e1
      | _ => cases e1
    | _ => cases e1
theorem upper_all : ∀ k, k < 26 → Txt.upper ⟨#[97 + k]⟩ = ⟨#[65 + k]⟩ := by decide +kernel
theorem upper_ok : MtR X "str.upper" (rBm X.K n m .upper) := by
  intro pins s σ H x xs v us Q I rx rv ⟨Z, M, d, ds, Qd, R, r1, rs, h, k⟩
  obtain ⟨z, e1, h⟩ := opt_elim (show opt (bmF .upper (deref M d) (ds.map fun y => y)) fun z => fin m z M Qd from h)
  match ds, rs, e1 with
  | _ :: _, rs, e1 => cases e1
  | [], rs, e1 =>
    unfold Reps at rs
    subst rs
    have v1 := r1.deref R
    have e1 : upperF (deref M d) = some z := e1
    generalize deref M d = d' at v1 e1
    cases d' with
    | str cs =>
      match cs, e1, v1 with
      | [], e1, _ => cases e1
      | _ :: _ :: _, e1, _ => cases e1
      | [c], e1, v1 =>
        have e1 : (if 97 ≤ c ∧ c ≤ 122 then some (D.str [c - 32]) else none) = some z := e1
        split at e1
        · rename_i hc
          cases e1
          have v1 : x = V.str _ := v1
          subst v1
          refine mt_upper pins s σ H _ _ v us Q I rx rv ⟨_, rfl, rfl, by rw [str_len]; exact (by decide : 1 ≤ 5592405), ?_⟩
          have e2 := upper_all (c - 97) (by omega)
          rw [show 97 + (c - 97) = c by omega, show 65 + (c - 97) = c - 32 by omega] at e2
          show Q (.str (Txt.upper ⟨#[c]⟩)) H
          rw [e2]
          exact fin_val (v := .str ⟨[c - 32].toArray⟩) R k rep_str (fun _ q => nomatch q) (fun _ _ q => nomatch q) h
        · cases e1
    | _ => cases e1
theorem get_ok (hu : X.A.units + 1 < cLine) : MtR X "dict.get" (rBm X.K n m .get) := by
  intro pins s σ H x xs v us Q I rx rv ⟨Z, M, d, ds, Qd, R, r1, rs, h, k⟩
  obtain ⟨z, e1, h⟩ := opt_elim (show opt (bmF .get (deref M d) ds) fun z => Qd z M from h)
  match ds, rs, e1 with
  | [], rs, e1 => cases e1
  | [_], rs, e1 => cases e1
  | _ :: _ :: _ :: _, rs, e1 => cases e1
  | [y, df], rs, e1 =>
    obtain ⟨w, w2, ew, rw1, rw2⟩ := rs.two_inv
    subst ew
    have v1 := r1.deref R
    have e1 : getF (deref M d) y df = some z := e1
    generalize deref M d = d' at v1 e1
    cases d' with
    | dct ks ws =>
      have e1 : (keyF y).map (fun k => (getK ks ws k).getD df) = some z := e1
      cases q : keyF y with
      | none =>
        rw [q] at e1
        cases e1
      | some kk =>
        rw [q] at e1
        have ez : (getK ks ws kk).getD df = z := Option.some.inj e1
        have ek := keyF_view (H := H) rw1 q
        subst ek
        obtain ⟨a, kvs, ev, h1, h2, h3⟩ := v1
        subst ev
        obtain rfl : v = Value.ref a := rx
        obtain ⟨u1, u2, eu, ru1, ru2⟩ := vals2 rv
        subst eu
        have g := getK_kvs (k := kk) h2 h3
        refine d_get2 hu I (DGet.k (k := kk.key) h1) ru1 ru2 fun w' s' I' rw' => ?_
        cases q3 : getK ks ws kk with
        | none =>
          rw [q3] at g ez
          have g : valV kvs kk.key = none := g
          rw [g] at rw'
          have ez : df = z := ez
          subst ez
          exact ⟨w2, H, I', rw', k Z M H df w2 (Same.refl Z) R rw2 h⟩
        | some t =>
          rw [q3] at g ez
          obtain ⟨tv, g1, g2⟩ := g
          rw [g1] at rw'
          have ez : t = z := ez
          subst ez
          exact ⟨tv, H, I', rw', k Z M H t tv (Same.refl Z) R g2 h⟩
    | _ => cases e1
end
end Lw

set_option Elab.async false
set_option linter.all false
set_option maxRecDepth 100000
set_option maxHeartbeats 1000000
/-! Lw6: the text against the small language; what is known of the module; where one stands. -/
namespace Lw
open PySem PySem.Spec PyProof.Rows L2

/-! ### forms of the text -/
def noStar : Expr → Bool
  | .Starred _ _ => false
  | _ => true
def noStars : List Expr → Bool
  | [] => true
  | e :: es => noStar e && noStars es
theorem star_cons {e : Expr} {es : List Expr} {env : Env} (h : noStar e = true) : starEach (e :: es) env = (false, eval e env) :: starEach es env := by
  cases e <;> first | rfl | cases h
theorem stars_any {pos : Pos} {env : Env} : ∀ {es : List Expr}, noStars es = true → (backTo pos (starEach es env)).any (·.1) = false
  | [], _ => rfl
  | e :: es, h => by
    have h2 : (noStar e && noStars es) = true := h
    rw [Bool.and_eq_true] at h2
    rw [star_cons h2.1]
    show (false || (backTo pos (starEach es env)).any (·.1)) = false
    rw [stars_any h2.2] <;> rfl
theorem stars_all {pos : Pos} {env : Env} : ∀ {es : List Expr}, noStars es = true → (backTo pos (starEach es env)).all (fun x => !x.1) = true
  | [], _ => rfl
  | e :: es, h => by
    have h2 : (noStar e && noStars es) = true := h
    rw [Bool.and_eq_true] at h2
    rw [star_cons h2.1]
    show (true && (backTo pos (starEach es env)).all (fun x => !x.1)) = true
    rw [stars_all h2.2] <;> rfl
def notSuper : Expr → Bool
  | .Call (.Name _ _) [] [] _ => false
  | _ => true
theorem base_of {o : Expr} {a : Str} {env : Env} {w : Sem Value} (h : notSuper o = true) : attributeBase o a env w = w := by
  unfold attributeBase
  split
  · cases h
  · rfl
def notSet : Expr → Bool
  | .Set _ _ _ => false
  | _ => true
theorem marks_of {op : CmpOp} {r : Expr} (h : notSet r = true) : behindInMarks op r = false := by
  cases r <;> first | rfl | cases h
def notSlice : Expr → Bool
  | .Slice _ _ _ _ => false
  | _ => true
theorem plainIx_of {b : Expr} (h : notSlice b = true) : PlainIx b := by
  intro o i
  cases b <;> first | rfl | cases h
/-- truth by the value -/
def byTruth : Expr → Bool
  | .UnaryOp .Not _ _ => false
  | .BoolOp _ _ _ => false
  | .IfExp _ _ _ _ => false
  | .Compare _ _ _ _ => false
  | _ => true
theorem truth_of {e : Expr} {env : Env} (h : byTruth e = true) : ∀ whole, isTrue e env whole = (do let v ← whole; standAt e.pos; holding [v] (truthy v)) := by
  intro whole
  cases e with
  | UnaryOp op x pos => cases op <;> first | rfl | cases h
  | _ => first | rfl | cases h
theorem mcall_tree {o : Expr} {m : Str} {apos pos : Pos} {args : List Expr} {env : Env} (hs : notSuper o = true) (hl : (apos.endLine == pos.line) = true) (hn : noStars args = true) (h30 : args.length < 30) :
    eval (.Call (.Attribute o m apos) args [] pos) env = (do
      let ov ← eval o env
      standAt apos.atName
      let (f, first) ← holding [ov] (getMethod ov m (plainOf o env))
      callWith pos f first (backTo pos (starEach args env)) (backToKw pos (keywordEach [] env))) := by
  have hf : methodCallForm (args.length + 0) (backTo pos (starEach args env)) (backToKw pos (keywordEach [] env)) = true := by
    unfold methodCallForm
    rw [stars_all hn]
    show (true && true && decide (args.length + 0 + 0 < 30)) = true
    rw [decide_eq_true (by omega)] <;> rfl
  show (do
    let ov ← attributeBase o m env (eval o env)
    standAt apos.atName
    methodCall o m apos pos env ov (args.length + 0) (backTo pos (starEach args env)) (backToKw pos (keywordEach [] env))) = _
  rw [base_of hs]
  refine congrArg _ (funext fun ov => ?_)
  refine congrArg _ (funext fun _ => ?_)
  exact mcall_line hf hl

/-! ### where one stands in the text -/
structure Cc where
  N : List Str
  sc : Scope
def isVar (c : Cc) (i : Nat) (x : Str) : Bool := decide (c.N[i]? = some x) && ((match c.sc.names.lookup x with
  | some .local => true
  | some .cell => true
  | some .free => true
  | _ => false) && (!(x == ("__debug__" : Str)) && !(x == ("__classdict__" : Str))))
def isOwn (c : Cc) (i : Nat) (x : Str) : Bool := decide (c.N[i]? = some x) && (match c.sc.names.lookup x with
  | some .local => true
  | some .cell => true
  | _ => false)
def isGl (c : Cc) (x : Str) : Bool := (match c.sc.names.lookup x with
  | some .globalImplicit => true
  | _ => false) && !(x == ("__debug__" : Str))
/-- the built-in names that the small language knows -/
def frees : List Str := ["len", "all", "any", "tuple", "list", "int", "bool", "str", "dict", "min", "max", "sum", "abs", "sorted", "isinstance", "range", "enumerate", "zip"]
/-- kinds -/
inductive Kd where
  | non | bl | int | str | tup | lst | dct | cls (c : Nat)
def kdV (K : PySem.W.Frag) (n : Nm) : Kd → Value
  | .non => .type "NoneType"
  | .bl => .type "bool"
  | .int => .type "int"
  | .str => .type "str"
  | .tup => .type "tuple"
  | .lst => .type "list"
  | .dct => .type "dict"
  | .cls c => .ref (cad K n c)
def ityV (K : PySem.W.Frag) (n : Nm) : Ity → Value
  | .int => .type "int"
  | .bool => .type "bool"
  | .str => .type "str"
  | .tup => .type "tuple"
  | .lst => .type "list"
  | .dct => .type "dict"
  | .cls c => .ref (cad K n c)
def kitF : Ity → Kd → Bool
  | .int, .int => true
  | .int, .bl => true
  | .bool, .bl => true
  | .str, .str => true
  | .tup, .tup => true
  | .lst, .lst => true
  | .dct, .dct => true
  | .cls c, .cls k => decide (k = c)
  | _, _ => false
def ityOk (g : G) : Ity → Bool
  | .cls c => decide (c ∈ g.cls)
  | _ => true
def kdOk (g : G) : Kd → Bool
  | .cls c => decide (c ∈ g.cls)
  | _ => true
/-- what is known of the module -/
structure Fc (n : Nm) (g : G) (fs : Nat → Option Fd) (K : PySem.W.Frag) (mg : Str → Option Value) : Prop where
  inj : ∀ i j, n.nm i = n.nm j → i = j
  cls : ∀ c f, f ∈ g.fat c → Cls K (cad K n c) ∧ NoAttr K (cad K n c) (n.nm f)
  mth : ∀ c m i, g.mt c m = some i → Cls K (cad K n c) ∧ Meth K (cad K n c) (n.nm m) (He.fAd K (n.fn i))
  ini : ∀ c i, g.ini c = some i → Mk K (cad K n c) (He.fAd K (n.fn i)) ∧ mg (n.nm c) = some (.ref (cad K n c))
  fn : ∀ i d x, fs i = some d → n.fn i = (x, none) → mg x = some (.ref (He.fAd K (n.fn i))) ∧ PySem.W.keepIn K (.ref (He.fAd K (n.fn i))) = true
  con : ∀ i d, g.con i = some d → ∃ u v, mg (n.cn i) = some u ∧ RelV v u ∧ ∀ Z, Rep K n Z d v
  free : ∀ x ∈ frees, mg x = none
  kit : ∀ t k, ityOk g t = true → kdOk g k = true → PySem.W.kitOne K (kdV K n k) (ityV K n t) = some (kitF t k)
  tyc : ∀ c, c ∈ g.cls → mg (n.nm c) = some (.ref (cad K n c)) ∧ Cls K (cad K n c) ∧ PySem.W.findIn K (.ref (cad K n c)) "__class__" = some (some (.builtin "object.__class__")) ∧ PySem.W.specialIn K (.builtin "object.__class__") "__get__" = some (some (.builtin "getset_descriptor.__get__")) ∧
    PySem.W.takesIn K (.builtin "object.__class__") = some true ∧ PySem.W.mroIn K (cad K n c) (.type "object") = some true
  exc : ∀ c, (∃ k, g.sub c k = true) → PySem.W.excIn K (cad K n c) He.veBase "ValueError.__new__" = true ∧ PySem.W.keepIn K (.ref (cad K n c)) = true ∧ PySem.W.subIn K (.ref (cad K n c)) (.type "BaseException") = some true ∧
    PySem.W.typeIn K (.ref (cad K n c)) = some (.type "type") ∧ mg (n.nm c) = some (.ref (cad K n c))
  exm : ∀ c k, g.sub c c = true → g.sub k k = true → PySem.W.exmOne K (.ref (cad K n c)) (.ref (cad K n k)) = some (g.sub c k)

/-- what a def promises, told by trees: called at most l deep -/
def spF (K : PySem.W.Frag) (n : Nm) (g : G) (fs : Nat → Option Fd) (l i : Nat) : Sp := fun vs H Q E => ∃ Z M ds Qd xq, Rel K n Z M H ∧ Reps K n Z ds vs ∧ wpF g fs l i ds M Qd xq ∧ REnd K n Z Qd Q ∧ RXn K n Z xq E
/-- where one stands -/
structure Ok (n : Nm) (g : G) (fs : Nat → Option Fd) (l : Nat) (X : Cx) (c : Cc) : Prop where
  fc : Fc n g fs X.K X.mg
  N : X.N = c.N
  nd : X.N.Nodup
  calm : X.calm = true
  room : Room (2 * l + 1) X.A
  vis : ∀ x k, c.sc.names.lookup x = some k → k = .local ∨ k = .cell ∨ k = .free → Vis X.env.scope x
  own : ∀ x k, c.sc.names.lookup x = some k → k = .local ∨ k = .cell → Loc X.env.scope x ∧ (X.fn x = true ∨ X.env.scope.names.lookup x = some .local)
  cap : ∀ x k, c.sc.names.lookup x = some k → k = .cell ∨ k = .free → X.env.scope.names.lookup x = some .cell ∨ X.env.scope.names.lookup x = some .free
  glb : ∀ x, c.sc.names.lookup x = some .globalImplicit → Gl X x
  fns : ∀ i d, fs i = some d → ∃ fd ps, FnOk X.prog X.w X.K X.mg X.base (L2.CX X.prog X.w) (2 * l) (He.fAd X.K (n.fn i)) fd ps (spF X.K n g fs l i) ∧ Binds X.K fd ps []
section
variable {n : Nm} {g : G} {fs : Nat → Option Fd} {l : Nat} {X : Cx} {c : Cc}
theorem Ok.hu64 (ok : Ok n g fs l X c) : X.A.units + 64 < cLine := ok.room.units
theorem Ok.hu1 (ok : Ok n g fs l X c) : X.A.units + 1 < cLine := Nat.lt_of_le_of_lt (by omega) ok.room.units
theorem Ok.var (ok : Ok n g fs l X c) {i : Nat} {x : Str} {pos : Pos} (h : isVar c i x = true) : PE X (.Name x pos) (tVar i) := by
  unfold isVar at h
  rw [Bool.and_eq_true, Bool.and_eq_true, Bool.and_eq_true] at h
  obtain ⟨h1, h2, h3, h4⟩ := h
  have h1 := of_decide_eq_true h1
  refine pe_var (by rw [ok.N]; exact h1) ?_ (by simpa using h3) (by simpa using h4)
  cases q : c.sc.names.lookup x with
  | none =>
    rw [q] at h2
    cases h2
  | some k =>
    rw [q] at h2
    cases k with
    | «local» => exact ok.vis x _ q (.inl rfl)
    | cell => exact ok.vis x _ q (.inr (.inl rfl))
    | free => exact ok.vis x _ q (.inr (.inr rfl))
    | _ => cases h2
theorem Ok.tgt (ok : Ok n g fs l X c) {i : Nat} {x : Str} {pos : Pos} (h : isOwn c i x = true) : PG X (.Name x pos) (gName i) := by
  unfold isOwn at h
  rw [Bool.and_eq_true] at h
  obtain ⟨h1, h2⟩ := h
  have h1 := of_decide_eq_true h1
  cases q : c.sc.names.lookup x with
  | none =>
    rw [q] at h2
    cases h2
  | some k =>
    rw [q] at h2
    have hk : k = .local ∨ k = .cell := by
      cases k with
      | «local» => exact .inl rfl
      | cell => exact .inr rfl
      | _ => cases h2
    obtain ⟨hl, hf⟩ := ok.own x k q hk
    exact pg_name ok.nd (by rw [ok.N]; exact h1) hl hf
theorem gl_of {x : Str} (h : isGl c x = true) : c.sc.names.lookup x = some .globalImplicit ∧ (x == ("__debug__" : Str)) = false := by
  unfold isGl at h
  rw [Bool.and_eq_true] at h
  obtain ⟨h1, h2⟩ := h
  refine ⟨?_, by simpa using h2⟩
  cases q : c.sc.names.lookup x with
  | none =>
    rw [q] at h1
    cases h1
  | some k =>
    rw [q] at h1
    cases k with
    | globalImplicit => rfl
    | _ => cases h1
theorem Ok.gl (ok : Ok n g fs l X c) {x : Str} (h : isGl c x = true) : Gl X x ∧ (x == ("__debug__" : Str)) = false := ⟨ok.glb x (gl_of h).1, (gl_of h).2⟩
end
theorem _root_.L2.PE.mono {X : Cx} {e : Expr} {t t' : TE} (h : PE X e t) (k : ∀ σ H Q, t' σ H Q → t σ H Q) : PE X e t' := ⟨fun pins s σ H Q I q => h.run pins s σ H Q I (k σ H Q q)⟩
theorem _root_.L2.PT.mono {X : Cx} {e : Expr} {t t' : TT} (h : PT X e t) (k : ∀ σ H Q, t' σ H Q → t σ H Q) : PT X e t' := ⟨fun pins s σ H Q I q => h.run pins s σ H Q I (k σ H Q q)⟩
theorem _root_.L2.PA.mono {X : Cx} {e : List Expr} {t t' : TA} (h : PA X e t) (k : ∀ σ H Q, t' σ H Q → t σ H Q) : PA X e t' := ⟨fun pos pins s σ H Q I q => h.run pos pins s σ H Q I (k σ H Q q)⟩

/-! ### making an instance, what is raised told by the slots -/
theorem run_makeS {X : Cx} {CX : CXT} {k : Nat} {f C : Addr} {fd : FuncData} {ps : List Str} {sp : Sp} {E : XK} {pins : List (Addr × Obj)} {σ : L2.St} {H : Hp} {s : Shared} {Q : VK} {us : List Value} {vs : List V} (M : Mk X.K C f)
    (F : FnOk X.prog X.w X.K X.mg X.base CX k f fd ps sp) (hr : Room (k + 1) X.A) (hb : Binds X.K fd ps []) (hx : PassesAt CX X σ E) (I : Inv X pins σ H s) (r : Vals vs us)
    (h : ∀ x dx, H x = none → H dx = none → dx ≠ x → sp (.ref x :: vs) (upd (upd H dx (.own x)) x (.ins C dx [])) (fun v H2 => v = .non ∧ Q (.ref x) H2) E) :
    wpAny (model X.prog X.w) X.A (call (.ref C) us) (EP X pins σ Q) X.xe s := by
  have hq := h (s.heap.objs.size + 1) s.heap.objs.size (I.hok.fresh (Nat.le_succ _)) (I.hok.fresh (Nat.le_refl _)) (Nat.ne_of_lt (Nat.lt_succ_self _))
  have I2 := Inv.made (C := C) I
  have r2 : Vals (V.ref (s.heap.objs.size + 1) :: vs) (Value.ref (s.heap.objs.size + 1) :: us) := .cons rfl r
  have hl : (Value.ref (s.heap.objs.size + 1) :: us).length = ps.length := by
    have e := r2.length
    rw [F.len _ _ _ _ hq] at e
    exact e.symm
  have b := hb _ (Value.ref (s.heap.objs.size + 1) :: us) I2.kIn (by rw [List.append_nil]; exact hl)
  rw [List.append_nil] at b
  refine wpAny_call (make_map (f := f) I.kIn M.makes M.init (beq_iff_eq.mp M.fn) (codeAny_mono (F.run _ X.stack _ _ ⟨Value.ref (s.heap.objs.size + 1) :: us, []⟩ (Value.ref (s.heap.objs.size + 1) :: us) _ _ E (hr.make C us [])
    (I2.env0.make C us []) b r2 hq) fun r s' hq' => ?_))
  cases r with
  | error e => exact hx pins _ _ e s' I2 hq'
  | ok fl =>
    cases fl with
    | ret u =>
      obtain ⟨v, H', I3, rv, ev, q3⟩ := I2.after hq'
      subst ev
      exact ⟨rv, ⟨V.ref (s.heap.objs.size + 1), H', I3, rfl, q3⟩⟩
    | next => exact False.elim hq'
    | brk => exact False.elim hq'
    | cont => exact False.elim hq'
end Lw

set_option Elab.async false
set_option linter.all false
set_option maxRecDepth 100000
set_option maxHeartbeats 1000000
/-! Lw7: readings of the small language as readings of the hand layer; expressions, form by form. -/
namespace Lw
open PySem PySem.Spec PyProof.Rows L2

section
variable (K : PySem.W.Frag) (n : Nm) (g : G) (fs : Nat → Option Fd) (l : Nat)
def BEnd (Z : Hp) (Qd : Bool → Mem → Prop) (Q : Bool → Hp → Prop) : Prop := ∀ Z' M' H' b, Same Z Z' → Rel K n Z' M' H' → Qd b M' → Q b H'
def LEnd (Z : Hp) (Qd : List D → Mem → Prop) (Q : List V → Hp → Prop) : Prop := ∀ Z' M' H' ds vs, Same Z Z' → Rel K n Z' M' H' → Reps K n Z' ds vs → Qd ds M' → Q vs H'
def OEnd (Z : Hp) (Qd : Option Int → Mem → Prop) (Q : Option Int → Hp → Prop) : Prop := ∀ Z' M' H' o, Same Z Z' → Rel K n Z' M' H' → Qd o M' → Q o H'
/-- only truth values come -/
def BlE (Z : Hp) (Qd : DK1) (Q : VK) : Prop := ∀ Z' M' H' b, Same Z Z' → Rel K n Z' M' H' → Qd (.bl b) M' → Q (.bl b) H'
def tE (ir : E) (W : WX) : TE := fun σ H Q => ∃ Z env M Qd xq, Rel K n Z M H ∧ ERel K n Z env σ ∧ wpE g (wpF g fs l) ir env M Qd xq ∧ REnd K n Z Qd Q ∧ RXn K n Z xq (WE W σ)
def tT (ir : T) (W : WX) : TT := fun σ H Q => ∃ Z env M Qd xq, Rel K n Z M H ∧ ERel K n Z env σ ∧ wpT g (wpF g fs l) ir env M Qd xq ∧ BEnd K n Z Qd Q ∧ RXn K n Z xq (WE W σ)
def tTo (ir : Ot) (W : WX) : TT := fun σ H Q => ∃ Z env M Qd xq, Rel K n Z M H ∧ ERel K n Z env σ ∧ wpTO g (wpF g fs l) ir env M Qd xq ∧ BEnd K n Z Qd Q ∧ RXn K n Z xq (WE W σ)
def tA (ir : Es) (W : WX) : TA := fun σ H Q => ∃ Z env M Qd xq, Rel K n Z M H ∧ ERel K n Z env σ ∧ wpEs g (wpF g fs l) ir env M Qd xq ∧ LEnd K n Z Qd Q ∧ RXn K n Z xq (WE W σ)
def tPo (ir : Oe) (W : WX) : TO := fun σ H Q => ∃ Z env M Qd xq, Rel K n Z M H ∧ ERel K n Z env σ ∧ wpO g (wpF g fs l) ir env M Qd xq ∧ OEnd K n Z Qd Q ∧ RXn K n Z xq (WE W σ)
end
section
variable {n : Nm} {g : G} {fs : Nat → Option Fd} {l : Nat} {X : Cx} {c : Cc} {W : WX} {pos : Pos}
theorem REnd.bl {K : PySem.W.Frag} {Z : Hp} {Qd : DK1} {Q : VK} (k : REnd K n Z Qd Q) : BlE K n Z Qd Q := fun Z' M' H' b s R q => k Z' M' H' (.bl b) (.bl b) s R rep_bl q
theorem BEnd.bl {K : PySem.W.Frag} {Z : Hp} {Qd : Bool → Mem → Prop} {Q : Bool → Hp → Prop} (k : BEnd K n Z Qd Q) : BlE K n Z (fun d M1 => opt (truthF (deref M1 d)) fun z => Qd z M1) (fun x H' => ∃ b, x = .bl b ∧ Q b H') := fun Z' M' H' b s R q => ⟨b, rfl, k Z' M' H' b s R q⟩
theorem BlE.mono {K : PySem.W.Frag} {Z Z1 : Hp} {Qd : DK1} {Q : VK} (s : Same Z Z1) (k : BlE K n Z Qd Q) : BlE K n Z1 Qd Q := fun Z' M' H' b s2 R q => k Z' M' H' b (s.trans s2) R q
theorem BEnd.mono {K : PySem.W.Frag} {Z Z1 : Hp} {Qd : Bool → Mem → Prop} {Q : Bool → Hp → Prop} (s : Same Z Z1) (k : BEnd K n Z Qd Q) : BEnd K n Z1 Qd Q := fun Z' M' H' b s2 R q => k Z' M' H' b (s.trans s2) R q
theorem LEnd.mono {K : PySem.W.Frag} {Z Z1 : Hp} {Qd : List D → Mem → Prop} {Q : List V → Hp → Prop} (s : Same Z Z1) (k : LEnd K n Z Qd Q) : LEnd K n Z1 Qd Q := fun Z' M' H' ds vs s2 R r q => k Z' M' H' ds vs (s.trans s2) R r q

/-! ### names, constants, fields -/
theorem join_some {α : Type} {env : List (Option α)} {i : Nat} {d : α} (e : env[i]?.join = some d) : env[i]? = some (some d) := by
  cases q : env[i]? with
  | none =>
    rw [q] at e
    cases e
  | some o =>
    rw [q] at e
    cases o with
    | none => cases e
    | some u =>
      cases e
      rfl
theorem c_var (ok : Ok n g fs l X c) {i : Nat} {x : Str} (h : isVar c i x = true) : PE X (.Name x pos) (tE X.K n g fs l (.var i) W) := (ok.var h).mono fun σ H Q ⟨Z, env, M, Qd, xq, R, er, w, k, kx⟩ => by
  simp only [wpE] at w
  obtain ⟨d, e, w⟩ := opt_elim w
  obtain ⟨v, h1, h2⟩ := er.val i d (join_some e)
  exact ⟨v, h1, k Z M H d v (Same.refl Z) R h2 w⟩
def cstOk : D → Const → Bool
  | .non, .none => true
  | .bl b, .bool k => b == k
  | .int i, .int j => decide (i = j)
  | .str cs, .str x => decide (x.cps.toList = cs)
  | _, _ => false
theorem str_of {x : Str} {cs : List Nat} (h : x.cps.toList = cs) : x = ⟨cs.toArray⟩ := by
  apply TL.ext_tl
  rw [TL.tl_mk]
  exact h
theorem c_cst {d : D} {kc : Const} {j : Nat} (h : cstOk d kc = true) : PE X (.Constant kc j pos) (tE X.K n g fs l (.cst d) W) := by
  unfold cstOk at h
  split at h
  · exact pe_non.mono fun σ H Q ⟨Z, env, M, Qd, xq, R, er, w, k, kx⟩ => k Z M H _ _ (Same.refl Z) R rep_non (by simpa only [wpE] using w)
  · have e := eq_of_beq h
    subst e
    exact pe_bl.mono fun σ H Q ⟨Z, env, M, Qd, xq, R, er, w, k, kx⟩ => k Z M H _ _ (Same.refl Z) R rep_bl (by simpa only [wpE] using w)
  · have e := of_decide_eq_true h
    subst e
    exact pe_int.mono fun σ H Q ⟨Z, env, M, Qd, xq, R, er, w, k, kx⟩ => k Z M H _ _ (Same.refl Z) R rep_int (by simpa only [wpE] using w)
  · have e := str_of (of_decide_eq_true h)
    subst e
    exact pe_str.mono fun σ H Q ⟨Z, env, M, Qd, xq, R, er, w, k, kx⟩ => k Z M H _ _ (Same.refl Z) R rep_str (by simpa only [wpE] using w)
  · cases h
theorem c_glb (ok : Ok n g fs l X c) {i : Nat} {x : Str} (h : isGl c x = true) (e : x = n.cn i) (hs : (g.con i).isSome = true) : PE X (.Name x pos) (tE X.K n g fs l (.glb i) W) := by
  obtain ⟨d, ed⟩ := Option.isSome_iff_exists.mp hs
  obtain ⟨u, v, h1, h2, h3⟩ := ok.fc.con i d ed
  obtain ⟨hg, hd⟩ := ok.gl h
  subst e
  exact (pe_glob hg h1 h2 hd).mono fun σ H Q ⟨Z, env, M, Qd, xq, R, er, w, k, kx⟩ => by
    simp only [wpE, ed, opt_some] at w
    exact k Z M H d v (Same.refl Z) R (h3 Z) w
theorem lookF_ws {K : PySem.W.Frag} {Z : Hp} (inj : ∀ i j, n.nm i = n.nm j → i = j) : ∀ {fl : List Nat} {ds : List D} {ws : List (Str × V)} {f : Nat} {d : D}, lookF fl ds f = some d → ws.map (·.1) = fl.map n.nm → Reps K n Z ds (ws.map (·.2)) → ∃ v, ws.lookup (n.nm f) = some v ∧ Rep K n Z d v
  | [], _, _, _, _, e, _, _ => by
    unfold lookF at e
    cases e
  | _ :: _, [], _, _, _, e, _, _ => by
    unfold lookF at e
    cases e
  | q :: fl, x :: ds, [], f, d, e, h, r => by cases h
  | q :: fl, x :: ds, (y, v) :: ws, f, d, e, h, r => by
    injection h with h1 h2
    have h1 : y = n.nm q := h1
    unfold Reps at r
    obtain ⟨u, us, er, r1, r2⟩ := r
    injection er with e1 e2
    have e1 : v = u := e1
    subst e1 e2 h1
    unfold lookF at e
    by_cases hq : q = f
    · subst hq
      rw [if_pos rfl] at e
      cases e
      exact ⟨v, by rw [List.lookup_cons, beq_self_eq_true], r1⟩
    · rw [if_neg hq] at e
      obtain ⟨t, h3, h4⟩ := lookF_ws inj e h2 r2
      refine ⟨t, ?_, h4⟩
      have hb : (n.nm f == n.nm q) = false := by
        rw [beq_eq_false_iff_ne]
        exact fun z => hq (inj _ _ z).symm
      rw [List.lookup_cons, hb]
      exact h3
theorem look_none (inj : ∀ i j, n.nm i = n.nm j → i = j) {m : Nat} : ∀ {fl : List Nat} {ws : List (Str × V)}, m ∉ fl → ws.map (·.1) = fl.map n.nm → ws.lookup (n.nm m) = none
  | _, [], _, _ => rfl
  | [], _ :: _, _, h => by cases h
  | q :: fl, (y, v) :: ws, hm, h => by
    injection h with h1 h2
    have h1 : y = n.nm q := h1
    subst h1
    have hb : (n.nm m == n.nm q) = false := by
      rw [beq_eq_false_iff_ne]
      exact fun z => hm (by rw [inj _ _ z]; exact List.mem_cons_self ..)
    rw [List.lookup_cons, hb]
    exact look_none inj (fun z => hm (List.mem_cons_of_mem _ z)) h2
theorem fldF_some {d v : D} {f : Nat} (h : fldF g d f = some v) : ∃ c fl vs, d = .ins c fl vs ∧ f ∈ g.fat c ∧ lookF fl vs f = some v := by
  unfold fldF at h
  split at h
  · split at h
    · rename_i hc
      exact ⟨_, _, _, rfl, hc, h⟩
    · cases h
  · cases h
theorem c_fld (ok : Ok n g fs l X c) {e : Expr} {ir : E} {f : Nat} {a : Str} (hs : notSuper e = true) (ea : a = n.nm f) (he : PE X e (tE X.K n g fs l ir W)) : PE X (.Attribute e a pos) (tE X.K n g fs l (.fld ir f) W) :=
  (pe_fld he (base_of hs)).mono fun σ H Q ⟨Z, env, M, Qd, xq, R, er, w, k, kx⟩ => by
    simp only [wpE] at w
    refine ⟨Z, env, M, _, xq, R, er, w, fun Z1 M1 H1 d v s1 R1 r1 w1 => ?_, kx⟩
    obtain ⟨u, eu, w1⟩ := opt_elim w1
    obtain ⟨cl, fl, vs, ed, hf, el⟩ := fldF_some eu
    have vw := r1.deref R1
    rw [ed] at vw
    obtain ⟨b, dx, ws, ev, h1, h2, h3⟩ := vw
    obtain ⟨t, h4, h5⟩ := lookF_ws ok.fc.inj el h2 h3
    subst ea
    obtain ⟨hc, hn⟩ := ok.fc.cls cl f hf
    exact ⟨b, _, dx, ws, t, ev, h1, hc, hn, h4, k Z1 M1 H1 u t s1 R1 h5 w1⟩

/-! ### operators -/
theorem c_bin {a b : Expr} {ia ib : E} {m : Bool} {op : Bop} (ha : PE X a (tE X.K n g fs l ia W)) (hb : PE X b (tE X.K n g fs l ib W)) : PE X (.BinOp a (bopO op) b pos) (tE X.K n g fs l (.bin m op ia ib) W) :=
  (pe_op (bin_ok op) ha hb).mono fun σ H Q ⟨Z, env, M, Qd, xq, R, er, w, k, kx⟩ => by
    simp only [wpE] at w
    refine ⟨Z, env, M, _, xq, R, er, w, fun Z1 M1 H1 d v s1 R1 r1 w1 => ⟨Z1, env, M1, _, xq, R1, er.mono s1, w1, fun Z2 M2 H2 e u s2 R2 r2 w2 => ?_, kx.mono s1⟩, kx⟩
    obtain ⟨z, ez, w2⟩ := opt_elim w2
    exact ⟨Z2, M2, d, e, z, Qd, R2, Rep.mono _ _ s2 d r1, r2, ez, w2, k.mono (s1.trans s2)⟩
theorem c_neg {a : Expr} {ia : E} (ha : PE X a (tE X.K n g fs l ia W)) : PE X (.UnaryOp .USub a pos) (tE X.K n g fs l (.neg ia) W) :=
  (pe_un un_neg ha).mono fun σ H Q ⟨Z, env, M, Qd, xq, R, er, w, k, kx⟩ => by
    simp only [wpE] at w
    refine ⟨Z, env, M, _, xq, R, er, w, fun Z1 M1 H1 d v s1 R1 r1 w1 => ?_, kx⟩
    cases d with
    | int i =>
      have e : v = .int i := r1.view R1
      exact ⟨i, e, k Z1 M1 H1 _ _ s1 R1 rep_int w1⟩
    | _ => exact w1.elim
theorem pc_of {a b : Expr} {ta tb : TE} {op : CmpOp} {r : R2} (ho : OpR X (compareOp op) r) (ha : PE X a ta) (hb : PE X b tb) : PC X op a b (tOp r ta tb) :=
  ⟨fun pins s σ H Q I h => binT ha hb I h fun v u s2 x y H2 I2 rx ry q => ho pins s2 σ H2 x y v u Q I2 rx ry q⟩
theorem cmp_core {K : PySem.W.Frag} {ia ib : E} {op : Cop} {σ : L2.St} {H Z : Hp} {Q : VK} {env : DEnv} {M : Mem} {Qd : DK1} {xq : XK1} (R : Rel K n Z M H) (er : ERel K n Z env σ) (w : wpE g (wpF g fs l) (.cmp op ia ib) env M Qd xq)
    (k : BlE K n Z Qd Q) (kx : RXn K n Z xq (WE W σ)) : tOp (rP K n (cmpF op)) (tE K n g fs l ia W) (tE K n g fs l ib W) σ H Q := by
  simp only [wpE] at w
  refine ⟨Z, env, M, _, xq, R, er, w, fun Z1 M1 H1 d v s1 R1 r1 w1 => ⟨Z1, env, M1, _, xq, R1, er.mono s1, w1, fun Z2 M2 H2 e u s2 R2 r2 w2 => ?_, kx.mono s1⟩, kx⟩
  obtain ⟨z, ez, w2⟩ := opt_elim w2
  exact ⟨Z2, M2, d, e, z, R2, Rep.mono _ _ s2 d r1, r2, ez, k Z2 M2 H2 z (s1.trans s2) R2 w2⟩
theorem c_cmp (ok : Ok n g fs l X c) {a b : Expr} {ia ib : E} {op : Cop} (hb' : notSet b = true) (ha : PE X a (tE X.K n g fs l ia W)) (hb : PE X b (tE X.K n g fs l ib W)) : PE X (.Compare a [copO op] [b] pos) (tE X.K n g fs l (.cmp op ia ib) W) :=
  (pe_cmp (pc_of (cmp_ok ok.hu64 op) ha hb) (marks_of hb')).mono fun σ H Q ⟨Z, env, M, Qd, xq, R, er, w, k, kx⟩ => cmp_core R er w k.bl kx
theorem c_cmpT (ok : Ok n g fs l X c) {a b : Expr} {ia ib : E} {op : Cop} (hb' : notSet b = true) (ha : PE X a (tE X.K n g fs l ia W)) (hb : PE X b (tE X.K n g fs l ib W)) : PT X (.Compare a [copO op] [b] pos) (tT X.K n g fs l (.val (.cmp op ia ib)) W) :=
  (pt_cmp (pc_of (cmp_ok ok.hu64 op) ha hb) (marks_of hb')).mono fun σ H Q ⟨Z, env, M, Qd, xq, R, er, w, k, kx⟩ => cmp_core R er (by simpa only [wpT] using w) k.bl kx
theorem chn_core {K : PySem.W.Frag} {ia ib ic : E} {o1 o2 : Cop} {σ : L2.St} {H Z : Hp} {Q : VK} {env : DEnv} {M : Mem} {Qd : DK1} {xq : XK1} (R : Rel K n Z M H) (er : ERel K n Z env σ) (w : wpE g (wpF g fs l) (.chn o1 o2 ia ib ic) env M Qd xq)
    (k : BlE K n Z Qd Q) (kx : RXn K n Z xq (WE W σ)) : tChain (rP K n (cmpF o1)) (rP K n (cmpF o2)) (tE K n g fs l ia W) (tE K n g fs l ib W) (tE K n g fs l ic W) σ H Q := by
  simp only [wpE] at w
  refine ⟨Z, env, M, _, xq, R, er, w, fun Z1 M1 H1 d v s1 R1 r1 w1 => ⟨Z1, env, M1, _, xq, R1, er.mono s1, w1, fun Z2 M2 H2 e u s2 R2 r2 w2 => ?_, kx.mono s1⟩, kx⟩
  obtain ⟨z, ez, w2⟩ := opt_elim w2
  refine ⟨Z2, M2, d, e, z, R2, Rep.mono _ _ s2 d r1, r2, ez, z, rfl, ?_⟩
  cases z with
  | true =>
    rw [if_pos rfl] at w2 ⊢
    refine ⟨Z2, env, M2, _, xq, R2, er.mono (s1.trans s2), w2, fun Z3 M3 H3 f t s3 R3 r3 w3 => ?_, kx.mono (s1.trans s2)⟩
    obtain ⟨z, ez, w3⟩ := opt_elim w3
    exact ⟨Z3, M3, e, f, z, R3, Rep.mono _ _ s3 e r2, r3, ez, k Z3 M3 H3 z ((s1.trans s2).trans s3) R3 w3⟩
  | false =>
    rw [if_neg Bool.false_ne_true] at w2 ⊢
    exact k Z2 M2 H2 false (s1.trans s2) R2 w2
theorem c_chn (ok : Ok n g fs l X c) {a b d : Expr} {ia ib ic : E} {o1 o2 : Cop} (hm : lastMarks [copO o1, copO o2] [b, d] = false) (ha : PE X a (tE X.K n g fs l ia W)) (hb : PE X b (tE X.K n g fs l ib W)) (hd : PE X d (tE X.K n g fs l ic W)) :
    PE X (.Compare a [copO o1, copO o2] [b, d] pos) (tE X.K n g fs l (.chn o1 o2 ia ib ic) W) :=
  (pe_chain (cmp_ok ok.hu64 o1) (cmp_ok ok.hu64 o2) ha hb hd hm).mono fun σ H Q ⟨Z, env, M, Qd, xq, R, er, w, k, kx⟩ => chn_core R er w k.bl kx
theorem c_chnT (ok : Ok n g fs l X c) {a b d : Expr} {ia ib ic : E} {o1 o2 : Cop} (hm : lastMarks [copO o1, copO o2] [b, d] = false) (ha : PE X a (tE X.K n g fs l ia W)) (hb : PE X b (tE X.K n g fs l ib W)) (hd : PE X d (tE X.K n g fs l ic W)) :
    PT X (.Compare a [copO o1, copO o2] [b, d] pos) (tT X.K n g fs l (.val (.chn o1 o2 ia ib ic)) W) :=
  (pt_chain (cmp_ok ok.hu64 o1) (cmp_ok ok.hu64 o2) ha hb hd hm).mono fun σ H Q ⟨Z, env, M, Qd, xq, R, er, w, k, kx⟩ => chn_core R er (by simpa only [wpT] using w) k.bl kx
def isNon : D → Bool
  | .non => true
  | _ => false
theorem non_iff {K : PySem.W.Frag} {Z : Hp} {d : D} {v : V} (r : Rep K n Z d v) : decide (v = .non) = isNon d := by
  cases d with
  | non =>
    unfold Rep at r
    subst r
    rfl
  | bl b =>
    unfold Rep at r
    subst r
    rfl
  | int b =>
    unfold Rep at r
    subst r
    rfl
  | str b =>
    unfold Rep at r
    subst r
    rfl
  | tup ds =>
    unfold Rep at r
    obtain ⟨a, vs, e, _⟩ := r
    subst e
    rfl
  | lst ds =>
    unfold Rep at r
    obtain ⟨a, vs, e, _⟩ := r
    subst e
    rfl
  | ins c fl ds =>
    unfold Rep at r
    obtain ⟨a, vs, _, e, _⟩ := r
    subst e
    rfl
  | dct ks ds =>
    unfold Rep at r
    obtain ⟨a, vs, e, _⟩ := r
    subst e
    rfl
  | loc a =>
    unfold Rep at r
    subst r
    rfl
  | scr ns =>
    unfold Rep at r
    obtain ⟨a, e, _⟩ := r
    subst e
    rfl
theorem isN_core {K : PySem.W.Frag} {ia : E} {σ : L2.St} {H Z : Hp} {Q : VK} {env : DEnv} {M : Mem} {Qd : DK1} {xq : XK1} (R : Rel K n Z M H) (er : ERel K n Z env σ) (w : wpE g (wpF g fs l) (.isN ia) env M Qd xq)
    (k : BlE K n Z Qd Q) (kx : RXn K n Z xq (WE W σ)) : tIsN (tE K n g fs l ia W) σ H Q := by
  simp only [wpE] at w
  refine ⟨Z, env, M, _, xq, R, er, w, fun Z1 M1 H1 d v s1 R1 r1 w1 => ?_, kx⟩
  show Q (.bl (decide (v = .non))) H1
  rw [non_iff r1]
  have q := k Z1 M1 H1 (isNon d) s1 R1
  cases d <;> exact q w1
theorem notN_core {K : PySem.W.Frag} {ia : E} {σ : L2.St} {H Z : Hp} {Q : VK} {env : DEnv} {M : Mem} {Qd : DK1} {xq : XK1} (R : Rel K n Z M H) (er : ERel K n Z env σ) (w : wpE g (wpF g fs l) (.notN ia) env M Qd xq)
    (k : BlE K n Z Qd Q) (kx : RXn K n Z xq (WE W σ)) : tNotN (tE K n g fs l ia W) σ H Q := by
  simp only [wpE] at w
  refine ⟨Z, env, M, _, xq, R, er, w, fun Z1 M1 H1 d v s1 R1 r1 w1 => ?_, kx⟩
  show Q (.bl (!decide (v = .non))) H1
  rw [non_iff r1]
  have q := k Z1 M1 H1 (!isNon d) s1 R1
  cases d <;> exact q w1
theorem c_isN {a : Expr} {ia : E} {j : Nat} {p2 : Pos} (ha : PE X a (tE X.K n g fs l ia W)) : PE X (.Compare a [.Is] [.Constant .none j p2] pos) (tE X.K n g fs l (.isN ia) W) :=
  (pe_cmp (pc_isN ha)).mono fun σ H Q ⟨Z, env, M, Qd, xq, R, er, w, k, kx⟩ => isN_core R er w k.bl kx
theorem c_isNT {a : Expr} {ia : E} {j : Nat} {p2 : Pos} (ha : PE X a (tE X.K n g fs l ia W)) : PT X (.Compare a [.Is] [.Constant .none j p2] pos) (tT X.K n g fs l (.val (.isN ia)) W) :=
  (pt_cmp (pc_isN ha)).mono fun σ H Q ⟨Z, env, M, Qd, xq, R, er, w, k, kx⟩ => isN_core R er (by simpa only [wpT] using w) k.bl kx
theorem c_notN {a : Expr} {ia : E} {j : Nat} {p2 : Pos} (ha : PE X a (tE X.K n g fs l ia W)) : PE X (.Compare a [.IsNot] [.Constant .none j p2] pos) (tE X.K n g fs l (.notN ia) W) :=
  (pe_cmp (pc_notN ha)).mono fun σ H Q ⟨Z, env, M, Qd, xq, R, er, w, k, kx⟩ => notN_core R er w k.bl kx
theorem c_notNT {a : Expr} {ia : E} {j : Nat} {p2 : Pos} (ha : PE X a (tE X.K n g fs l ia W)) : PT X (.Compare a [.IsNot] [.Constant .none j p2] pos) (tT X.K n g fs l (.val (.notN ia)) W) :=
  (pt_cmp (pc_notN ha)).mono fun σ H Q ⟨Z, env, M, Qd, xq, R, er, w, k, kx⟩ => notN_core R er (by simpa only [wpT] using w) k.bl kx

/-! ### and, or, not, if -/
theorem c_and {a b : Expr} {rest : List Expr} {ia ib : E} (ha : PE X a (tE X.K n g fs l ia W)) (hb : PE X (.BoolOp .And (b :: rest) pos) (tE X.K n g fs l ib W)) : PE X (.BoolOp .And (a :: b :: rest) pos) (tE X.K n g fs l (.and ia ib) W) :=
  (pe_and ha hb).mono fun σ H Q ⟨Z, env, M, Qd, xq, R, er, w, k, kx⟩ => by
    simp only [wpE] at w
    refine ⟨Z, env, M, _, xq, R, er, w, fun Z1 M1 H1 d v s1 R1 r1 w1 => ?_, kx⟩
    cases d with
    | bl z =>
      have e : v = .bl z := r1.view R1
      refine ⟨z, e, ?_⟩
      cases z with
      | true => exact ⟨Z1, env, M1, Qd, xq, R1, er.mono s1, w1, k.mono s1, kx.mono s1⟩
      | false => exact k Z1 M1 H1 _ _ s1 R1 rep_bl w1
    | _ => exact w1.elim
theorem c_or {a b : Expr} {rest : List Expr} {ia ib : E} (ha : PE X a (tE X.K n g fs l ia W)) (hb : PE X (.BoolOp .Or (b :: rest) pos) (tE X.K n g fs l ib W)) : PE X (.BoolOp .Or (a :: b :: rest) pos) (tE X.K n g fs l (.or ia ib) W) :=
  (pe_or ha hb).mono fun σ H Q ⟨Z, env, M, Qd, xq, R, er, w, k, kx⟩ => by
    simp only [wpE] at w
    refine ⟨Z, env, M, _, xq, R, er, w, fun Z1 M1 H1 d v s1 R1 r1 w1 => ?_, kx⟩
    cases d with
    | bl z =>
      have e : v = .bl z := r1.view R1
      refine ⟨z, e, ?_⟩
      cases z with
      | true => exact k Z1 M1 H1 _ _ s1 R1 rep_bl w1
      | false => exact ⟨Z1, env, M1, Qd, xq, R1, er.mono s1, w1, k.mono s1, kx.mono s1⟩
    | _ => exact w1.elim
theorem c_not {a : Expr} {ia : E} (ha : PE X a (tE X.K n g fs l ia W)) : PE X (.UnaryOp .Not a pos) (tE X.K n g fs l (.not ia) W) :=
  (pe_not ha).mono fun σ H Q ⟨Z, env, M, Qd, xq, R, er, w, k, kx⟩ => by
    simp only [wpE] at w
    refine ⟨Z, env, M, _, xq, R, er, w, fun Z1 M1 H1 d v s1 R1 r1 w1 => ?_, kx⟩
    cases d with
    | bl z =>
      have e : v = .bl z := r1.view R1
      exact ⟨z, e, k Z1 M1 H1 _ _ s1 R1 rep_bl w1⟩
    | _ => exact w1.elim
theorem c_ite {t a b : Expr} {it : T} {ia ib : E} (ht : PT X t (tT X.K n g fs l it W)) (ha : PE X a (tE X.K n g fs l ia W)) (hb : PE X b (tE X.K n g fs l ib W)) : PE X (.IfExp t a b pos) (tE X.K n g fs l (.ite it ia ib) W) :=
  (pe_ifExp ht ha hb).mono fun σ H Q ⟨Z, env, M, Qd, xq, R, er, w, k, kx⟩ => by
    simp only [wpE] at w
    refine ⟨Z, env, M, _, xq, R, er, w, fun Z1 M1 H1 z s1 R1 w1 => ?_, kx⟩
    cases z with
    | true => exact ⟨Z1, env, M1, Qd, xq, R1, er.mono s1, w1, k.mono s1, kx.mono s1⟩
    | false => exact ⟨Z1, env, M1, Qd, xq, R1, er.mono s1, w1, k.mono s1, kx.mono s1⟩
/-! ### tests -/
theorem tru_view {K : PySem.W.Frag} {Z H : Hp} {M : Mem} {d : D} {v : V} {z : Bool} (R : Rel K n Z M H) (vw : View K n Z H d v) (e : truthF d = some z) : TruV K v H z := by
  cases d with
  | non =>
    have e2 : v = V.non := vw
    subst e2
    cases e
    rfl
  | bl b =>
    have e2 : v = V.bl b := vw
    subst e2
    cases e
    rfl
  | int i =>
    have e2 : v = V.int i := vw
    subst e2
    cases e
    rfl
  | str cs =>
    have e2 : v = V.str ⟨cs.toArray⟩ := vw
    subst e2
    simp only [truthF] at e
    split at e
    · rename_i hl
      cases e
      refine ⟨by rw [str_len]; exact hl, ?_⟩
      rw [str_len]
      cases cs with
      | nil => rfl
      | cons q r =>
        show true = (((r.length + 1 : Nat) : Int) != 0)
        symm
        rw [bne_iff_ne]
        omega
    · cases e
  | tup ds =>
    obtain ⟨a, vs, e2, h1, h2⟩ := vw
    subst e2
    cases e
    refine .inr (.inl ⟨vs, R.T h1, ?_⟩)
    have hl := h2.length
    cases ds <;> cases vs <;> first | rfl | cases hl
  | lst ds =>
    obtain ⟨a, vs, e2, h1, h2⟩ := vw
    subst e2
    cases e
    refine .inl ⟨vs, SqL.of h1, ?_⟩
    have hl := h2.length
    cases ds <;> cases vs <;> first | rfl | cases hl
  | _ => cases e
theorem c_val {e : Expr} {ie : E} (hb : byTruth e = true) (he : PE X e (tE X.K n g fs l ie W)) : PT X e (tT X.K n g fs l (.val ie) W) :=
  (pt_truth he (truth_of hb)).mono fun σ H Q ⟨Z, env, M, Qd, xq, R, er, w, k, kx⟩ => by
    simp only [wpT] at w
    refine ⟨Z, env, M, _, xq, R, er, w, fun Z1 M1 H1 d v s1 R1 r1 w1 => ?_, kx⟩
    obtain ⟨z, ez, w1⟩ := opt_elim w1
    exact ⟨z, tru_view R1 (r1.deref R1) ez, k Z1 M1 H1 z s1 R1 w1⟩
theorem pw_bool {op : BoolOp} {es : List Expr} {t : TT} (h : PT X (.BoolOp op es pos) t) : PW X (.BoolOp op es pos) t := by
  refine ⟨fun whole pins s σ H Q I q => ?_⟩
  have e : isTrue (.BoolOp op es pos) X.env whole = isTrue (.BoolOp op es pos) X.env (eval (.BoolOp op es pos) X.env) := by
    cases op <;> rfl
  rw [e]
  exact h.run pins s σ H Q I q
theorem c_tand {a b : Expr} {rest : List Expr} {ia ib : T} (ha : PT X a (tT X.K n g fs l ia W)) (hb : PW X (.BoolOp .And (b :: rest) pos) (tT X.K n g fs l ib W)) : PT X (.BoolOp .And (a :: b :: rest) pos) (tT X.K n g fs l (.and ia ib) W) :=
  (pw_and ha hb).pt.mono fun σ H Q ⟨Z, env, M, Qd, xq, R, er, w, k, kx⟩ => by
    simp only [wpT] at w
    refine ⟨Z, env, M, _, xq, R, er, w, fun Z1 M1 H1 z s1 R1 w1 => ?_, kx⟩
    cases z with
    | true => exact ⟨Z1, env, M1, Qd, xq, R1, er.mono s1, w1, k.mono s1, kx.mono s1⟩
    | false => exact k Z1 M1 H1 _ s1 R1 w1
theorem c_tor {a b : Expr} {rest : List Expr} {ia ib : T} (ha : PT X a (tT X.K n g fs l ia W)) (hb : PW X (.BoolOp .Or (b :: rest) pos) (tT X.K n g fs l ib W)) : PT X (.BoolOp .Or (a :: b :: rest) pos) (tT X.K n g fs l (.or ia ib) W) :=
  (pw_or ha hb).pt.mono fun σ H Q ⟨Z, env, M, Qd, xq, R, er, w, k, kx⟩ => by
    simp only [wpT] at w
    refine ⟨Z, env, M, _, xq, R, er, w, fun Z1 M1 H1 z s1 R1 w1 => ?_, kx⟩
    cases z with
    | true => exact k Z1 M1 H1 _ s1 R1 w1
    | false => exact ⟨Z1, env, M1, Qd, xq, R1, er.mono s1, w1, k.mono s1, kx.mono s1⟩
theorem c_tnot {a : Expr} {ia : T} (ha : PT X a (tT X.K n g fs l ia W)) : PT X (.UnaryOp .Not a pos) (tT X.K n g fs l (.not ia) W) :=
  (pt_not ha).mono fun σ H Q ⟨Z, env, M, Qd, xq, R, er, w, k, kx⟩ => by
    simp only [wpT] at w
    exact ⟨Z, env, M, _, xq, R, er, w, fun Z1 M1 H1 z s1 R1 w1 => k Z1 M1 H1 _ s1 R1 w1, kx⟩

/-! ### lists of expressions, displays -/
theorem c_nil : PA X [] (tA X.K n g fs l .nil W) := pa_nil.mono fun σ H Q ⟨Z, env, M, Qd, xq, R, er, w, k, kx⟩ => by
  simp only [wpEs] at w
  exact k Z M H [] [] (Same.refl Z) R Reps.nil w
theorem c_cons {e : Expr} {es : List Expr} {ie : E} {is : Es} (hs : noStar e = true) (he : PE X e (tE X.K n g fs l ie W)) (hr : PA X es (tA X.K n g fs l is W)) : PA X (e :: es) (tA X.K n g fs l (.cons ie is) W) :=
  (pa_cons he hr (star_cons hs)).mono fun σ H Q ⟨Z, env, M, Qd, xq, R, er, w, k, kx⟩ => by
    simp only [wpEs] at w
    exact ⟨Z, env, M, _, xq, R, er, w, fun Z1 M1 H1 d v s1 R1 r1 w1 => ⟨Z1, env, M1, _, xq, R1, er.mono s1, w1, fun Z2 M2 H2 ds vs s2 R2 r2 w2 =>
      k Z2 M2 H2 _ _ (s1.trans s2) R2 (Reps.cons (Rep.mono _ _ s2 d r1) r2) w2, kx.mono s1⟩, kx⟩
theorem c_tup {es : List Expr} {is : Es} {x1 : Nat} (h : PA X es (tA X.K n g fs l is W)) : PE X (.Tuple es x1 pos) (tE X.K n g fs l (.tup is) W) :=
  (pe_tup h).mono fun σ H Q ⟨Z, env, M, Qd, xq, R, er, w, k, kx⟩ => by
    simp only [wpE] at w
    exact ⟨Z, env, M, _, xq, R, er, w, fun Z1 M1 H1 ds vs s1 R1 r1 w1 => ⟨by rw [r1.length]; exact w1.1, fun p hp => fin_tup (m := false) R1 (k.mono s1) r1 w1.2 hp⟩, kx⟩
theorem c_lst {es : List Expr} {is : Es} {m : Bool} (h : PA X es (tA X.K n g fs l is W)) : PE X (.List es pos) (tE X.K n g fs l (.lst m is) W) :=
  (pe_lst h).mono fun σ H Q ⟨Z, env, M, Qd, xq, R, er, w, k, kx⟩ => by
    simp only [wpE] at w
    exact ⟨Z, env, M, _, xq, R, er, w, fun Z1 M1 H1 ds vs s1 R1 r1 w1 => ⟨by rw [r1.length]; exact w1.1, fun p hp => fin_lst R1 (k.mono s1) r1 w1.2 hp⟩, kx⟩

/-! ### parts -/
theorem c_idx (ok : Ok n g fs l X c) {a b : Expr} {ia ib : E} (hb' : notSlice b = true) (ha : PE X a (tE X.K n g fs l ia W)) (hb : PE X b (tE X.K n g fs l ib W)) : PE X (.Subscript a b pos) (tE X.K n g fs l (.idx ia ib) W) :=
  (pe_ix (idx_ok ok.hu1) ha hb (plainIx_of hb')).mono fun σ H Q ⟨Z, env, M, Qd, xq, R, er, w, k, kx⟩ => by
    simp only [wpE] at w
    refine ⟨Z, env, M, _, xq, R, er, w, fun Z1 M1 H1 d v s1 R1 r1 w1 => ⟨Z1, env, M1, _, xq, R1, er.mono s1, w1, fun Z2 M2 H2 e u s2 R2 r2 w2 => ?_, kx.mono s1⟩, kx⟩
    obtain ⟨z, ez, w2⟩ := opt_elim w2
    exact ⟨Z2, M2, d, e, z, Qd, R2, Rep.mono _ _ s2 d r1, r2, ez, w2, k.mono (s1.trans s2)⟩
theorem _root_.L2.PO.mono {e : Option Expr} {t t' : TO} (h : PO X e t) (k : ∀ σ H Q, t' σ H Q → t σ H Q) : PO X e t' := ⟨fun pins s σ H Q I q => h.run pins s σ H Q I (k σ H Q q)⟩
theorem c_onone : PO X none (tPo X.K n g fs l .none W) := PO.mono po_none fun σ H Q ⟨Z, env, M, Qd, xq, R, er, w, k, kx⟩ => by
  simp only [wpO] at w
  exact k Z M H none (Same.refl Z) R w
theorem c_osome {e : Expr} {ie : E} (he : PE X e (tE X.K n g fs l ie W)) : PO X (some e) (tPo X.K n g fs l (.some ie) W) := PO.mono (po_some he) fun σ H Q ⟨Z, env, M, Qd, xq, R, er, w, k, kx⟩ => by
  simp only [wpO] at w
  refine ⟨Z, env, M, _, xq, R, er, w, fun Z1 M1 H1 d v s1 R1 r1 w1 => ?_, kx⟩
  cases d with
  | int i =>
    have e : v = .int i := r1.view R1
    exact ⟨i, e, k Z1 M1 H1 _ s1 R1 w1⟩
  | _ => exact w1.elim
theorem c_sl {a : Expr} {lo hi : Option Expr} {ia : E} {il ih : Oe} {m : Bool} {p2 : Pos} (ha : PE X a (tE X.K n g fs l ia W)) (hl : PO X lo (tPo X.K n g fs l il W)) (hh : PO X hi (tPo X.K n g fs l ih W)) :
    PE X (.Subscript a (.Slice lo hi none p2) pos) (tE X.K n g fs l (.sl m ia il ih) W) :=
  (pe_slice (sl_ok (m := m)) ha hl hh).mono fun σ H Q ⟨Z, env, M, Qd, xq, R, er, w, k, kx⟩ => by
    simp only [wpE] at w
    refine ⟨Z, env, M, _, xq, R, er, w, fun Z1 M1 H1 d v s1 R1 r1 w1 => ⟨Z1, env, M1, _, xq, R1, er.mono s1, w1, fun Z2 M2 H2 lo s2 R2 w2 => ⟨Z2, env, M2, _, xq, R2, er.mono (s1.trans s2), w2, fun Z3 M3 H3 hi s3 R3 w3 => ?_, kx.mono (s1.trans s2)⟩, kx.mono s1⟩, kx⟩
    obtain ⟨z, ez, w3⟩ := opt_elim w3
    exact ⟨Z3, M3, d, z, Qd, R3, Rep.mono _ _ (s2.trans s3) d r1, ez, w3, k.mono ((s1.trans s2).trans s3)⟩
end
end Lw

set_option Elab.async false
set_option linter.all false
set_option maxRecDepth 100000
set_option maxHeartbeats 1000000
/-! Lw8: calls, what is made, built-in functions and methods; things turned round. -/
namespace Lw
open PySem PySem.Spec PyProof.Rows L2

/-! ### a tuple turned round -/
theorem fm_congr {α β : Type} {f h : α → Option β} : ∀ {xs : List α}, (∀ x ∈ xs, f x = h x) → xs.filterMap f = xs.filterMap h
  | [], _ => rfl
  | x :: xs, q => by
    rw [List.filterMap_cons, List.filterMap_cons, q x (List.mem_cons_self ..), fm_congr fun y hy => q y (List.mem_cons_of_mem _ hy)]
theorem turned_items (its : Array Value) : ((List.range its.size).filterMap fun (j : Nat) => its[(((its.size : Int) - 1) + (j : Int) * (-1)).toNat]?).toArray = its.toList.reverse.toArray := by
  have e1 : ((List.range its.size).filterMap fun (j : Nat) => its[(((its.size : Int) - 1) + (j : Int) * (-1)).toNat]?) = (((List.range its.size).map fun j => its.size - 1 - j).filterMap fun j => its[j]?) := by
    rw [List.filterMap_map]
    refine fm_congr fun j hj => ?_
    have hj2 := List.mem_range.mp hj
    have e2 : (((its.size : Int) - 1) + (j : Int) * (-1)).toNat = its.size - 1 - j := by omega
    show its[(((its.size : Int) - 1) + (j : Int) * (-1)).toNat]? = its[its.size - 1 - j]?
    rw [e2]
  rw [e1, PySem.W.krv_range, List.filterMap_reverse, PySem.W.krv_all]
section
variable {prog : Program} {w : World} {A : Around} {E : Value → Shared → Prop} {s : Shared}
theorem applied_turned {sl : Addr} {v1 v2 v3 : Value} {k : Nat} {Q : Int × Int × Nat → Shared → Prop} (hs : s.heap.IsSliceOf sl v1 v2 v3) (p1 : IsPart v1 none) (p2 : IsPart v2 none) (p3 : IsPart v3 (some (-1)))
    (h : Q ((k : Int) - 1, -1, k) s) : wpAny (model prog w) A (Builtin.Slice.sliceApplied (.ref sl) (pure (k : Int))) Q E s := by
  obtain ⟨ob, hob, hcl, hdt⟩ := id hs
  unfold Builtin.Slice.sliceApplied Builtin.Slice.sliceFields
  refine wpAny_bind (wpAny_bind (wpAny_field hob hdt (x := v1) rfl (wpAny_bind (wpAny_field hob hdt (x := v2) rfl (wpAny_bind (wpAny_field hob hdt (x := v3) rfl (wpAny_pure ?_)))))))
  refine wpAny_bind (HT.slicePart_ p3 ?_)
  show wpAny _ _ (if ((-1 : Int) == 0) = true then _ else _) _ _ s
  rw [if_neg (by decide)]
  refine wpAny_bind (HT.slicePart_ p1 (wpAny_bind (HT.slicePart_ p2 (wpAny_bind (wpAny_pure ?_)))))
  have e1 : Builtin.Slice.sliceAdjust none none (-1) (k : Int) = ((k : Int) - 1, -1) := rfl
  have e2 : Builtin.Slice.slicePlaces ((k : Int) - 1) (-1) (-1) = k := by
    unfold Builtin.Slice.slicePlaces
    rw [if_neg (by decide)]
    by_cases hk : (k : Int) - 1 > -1
    · rw [if_pos hk]
      have e3 : ((k : Int) - 1 - -1 - 1) / (- -1) + 1 = (k : Int) := by
        rw [show (- -1 : Int) = 1 by decide, Int.ediv_one]
        omega
      rw [e3, Int.toNat_natCast]
    · rw [if_neg hk]
      show 0 = k
      omega
  show wpAny _ _ (match Builtin.Slice.sliceAdjust none none (-1) (k : Int) with | (lo, hi) => pure (lo, (-1 : Int), Builtin.Slice.slicePlaces lo hi (-1))) _ _ s
  rw [e1]
  show wpAny _ _ (pure ((k : Int) - 1, (-1 : Int), Builtin.Slice.slicePlaces ((k : Int) - 1) (-1) (-1))) _ _ s
  rw [e2]
  exact wpAny_pure h
theorem item_tup_turned {t sl : Addr} {its : Array Value} {v1 v2 v3 : Value} {Q : Value → Shared → Prop} (ht : IsTup s.heap t its) (hs : s.heap.IsSliceOf sl v1 v2 v3) (p1 : IsPart v1 none) (p2 : IsPart v2 none) (p3 : IsPart v3 (some (-1)))
    (h : Q (.ref s.heap.objs.size) { s with heap := s.heap.push { cls := .type "tuple", data := .seq its.toList.reverse.toArray } }) (hz : its.size ≤ sizeLine) : wpAny (model prog w) A (getItem (.ref t) (.ref sl)) Q E s := by
  have hz2 : sizeOk (.seq its.toList.reverse.toArray) := by
    show its.toList.reverse.toArray.size ≤ sizeLine
    rw [List.size_toArray, List.length_reverse, Array.length_toList]
    exact hz
  obtain ⟨ob, hob, hcl, hdt⟩ := id hs
  have hT : s.TypeIs (.ref sl) "slice" := ⟨ob, hob, hcl⟩
  unfold getItem
  try with_reducible refine wpAny_holding ?_
  first | refine wpAny_bind (wpAny_pure ?_) | skip
  refine wpAny_bind (wpAny_sequenceKey ht.typeIs (by decide) ?_)
  refine wpAny_bind (wpAny_callSpecial?_slot (name := Str.ofString "__getitem__") ht.typeIs slot_tuple_getitem (wpAny_call_entry slot_tuple_getitem ht.typeIs entry_tuple_getitem ?_ (args_tuple_getitem _ _)))
  show wpAny _ _ (Builtin.Tuple.tupleItemsOf (.ref t) >>= _) _ _ s
  refine wpAny_bind (tupleItemsOf_ ht ?_)
  refine wpAny_bind (wpAny_typeOf hT ?_)
  rw [if_pos (by decide)]
  refine wpAny_bind (applied_turned hs p1 p2 p3 ?_)
  have hno : ¬ (((its.size : Int) - 1 == 0 && (-1 : Int) == 1 && its.size == its.size) = true) := by
    intro q
    rw [Bool.and_eq_true, Bool.and_eq_true] at q
    exact absurd q.1.2 (by decide)
  show wpAny _ _ (if ((its.size : Int) - 1 == 0 && (-1 : Int) == 1 && its.size == its.size) = true then _ else _) _ _ s
  rw [if_neg hno, turned_items]
  first
    | exact wpAny_bind (m := Builtin.Tuple.tupleExact _) (wpAny_newObj_type (wpAny_pure ⟨_, rfl, wpAny_pure h⟩) hz2)
    | exact wpAny_bind (m := Builtin.Tuple.tupleExact _) (wpAny_newObj_type (wpAny_bind (wpAny_pure (wpAny_pure ⟨_, rfl, wpAny_pure h⟩))) hz2)
    | exact wpAny_bind (wpAny_bind (m := Builtin.Tuple.tupleExact _) (wpAny_newObj_type (wpAny_pure (wpAny_pure ⟨_, rfl, wpAny_pure h⟩)) hz2))
    | exact wpAny_bind (wpAny_bind (m := Builtin.Tuple.tupleExact _) (wpAny_newObj_type (wpAny_pure ⟨_, rfl, wpAny_pure h⟩) hz2))
end
def tRevT (K : PySem.W.Frag) (te : TE) : TE := fun σ H Q => te σ H fun x H1 => ∃ a xs, x = .ref a ∧ SqT K H1 a xs ∧ ∀ p, H1 p = none → Q (.ref p) (upd H1 p (.tup xs.reverse))
def tRev (K : PySem.W.Frag) (te : TE) : TE := fun σ H Q => te σ H fun x H1 => ∃ a xs, x = .ref a ∧ ((SqL K H1 a xs ∧ ∀ p, H1 p = none → Q (.ref p) (upd H1 p (.lst xs.reverse))) ∨ (SqT K H1 a xs ∧ ∀ p, H1 p = none → Q (.ref p) (upd H1 p (.tup xs.reverse))))
theorem pe_rev {X : Cx} {e : Expr} {te : TE} {k : Nat} {p1 p2 p3 pos : Pos} (he : PE X e te) : PE X (.Subscript e (.Slice none none (some (.UnaryOp .USub (.Constant (.int 1) k p1) p2)) p3) pos) (tRev X.K te) := by
  refine ⟨fun pins s σ H Q I h => ?_⟩
  refine Subscript_ (thn (he.run pins s σ H _ I h) fun v s1 ⟨x, H1, I1, r1, q1⟩ => ?_)
  obtain ⟨a, xs, ex, q⟩ := q1
  subst ex
  cases r1
  have hst : PO X (some (.UnaryOp .USub (.Constant (.int 1) k p1) p2)) (tPart (tUn (rU fun i => .int (-i)) (tC (.int 1)))) := po_some (pe_un un_neg pe_int)
  refine wpAny_Slice (thn (po_none.run pins s1 σ H1 (fun o H2 => o = none ∧ H2 = H1) I1 ⟨rfl, rfl⟩) fun v1 s2 ⟨o1, H2, I2, p1, eo1, e2⟩ => ?_)
  subst eo1 e2
  refine thn (po_none.run pins s2 σ H2 (fun o H3 => o = none ∧ H3 = H2) I2 ⟨rfl, rfl⟩) fun v2 s3 ⟨o2, H3, I3, p2, eo2, e3⟩ => ?_
  subst eo2 e3
  refine thn (hst.run pins s3 σ H3 (fun o H4 => o = some (-1) ∧ H4 = H3) I3 ⟨1, rfl, -1, rfl, rfl, rfl⟩) fun v3 s4 ⟨o3, H4, I4, p3, eo3, e4⟩ => ?_
  subst eo3 e4
  have I5 : Inv X pins σ H4 { s4 with heap := s4.heap.push { cls := .type "slice", data := .fields #[v1, v2, v3] } } := I4.kept (t' := s4.toks) fun b ob z => Heap.get?_push_of_some _ z
  show wpAny (model X.prog X.w) X.A (subscriptTail e _ (.ref a) (.ref s4.heap.objs.size)) (EP X pins σ Q) X.xe { s4 with heap := s4.heap.push { cls := .type "slice", data := .fields #[v1, v2, v3] } }
  rcases q with ⟨hx, q⟩ | ⟨hx, q⟩
  · obtain ⟨its, r, ht, hz⟩ := I5.list hx
    have hlen := r.length
    refine tail_any (ops := [.ref a, .ref s4.heap.objs.size]) ht.isList.typeIs (PySem.slot_list_getitem.lookup) ?_ (by with_unfolding_all rfl)
    refine wpAny_getItem_list_slice ht.isList (Heap.IsSliceOf.new _ v1 v2 v3) p1 p2 p3 (by decide) ?_ (by rw [List.size_toArray]; omega)
    rw [PySem.W.krv_pick]
    refine ⟨.ref _, _, I5.laid (t' := s4.toks) (o := .lst xs.reverse) (fun b ob z => Heap.get?_push_of_some _ z) (Nat.le_refl _) ?_, rfl, q _ (I5.hok.fresh (Nat.le_refl _))⟩
    exact ⟨by rw [List.length_reverse]; exact hz, _, 0, r.reverse, Heap.get?_push_size _ rfl⟩
  · obtain ⟨its, r, ht, hz⟩ := I5.tuple hx
    have hlen := r.length
    refine tail_any (ops := [.ref a, .ref s4.heap.objs.size]) ht.typeIs (slot_tuple_getitem.lookup) ?_ (by with_unfolding_all rfl)
    refine item_tup_turned ht (Heap.IsSliceOf.new _ v1 v2 v3) p1 p2 p3 ?_ (by rw [List.size_toArray]; omega)
    refine ⟨.ref _, _, I5.laid (t' := s4.toks) (o := .tup xs.reverse) (fun b ob z => Heap.get?_push_of_some _ z) (Nat.le_refl _) ?_, rfl, q _ (I5.hok.fresh (Nat.le_refl _))⟩
    exact ⟨by rw [List.length_reverse]; exact hz, _, r.reverse, ⟨_, Heap.get?_push_size _ rfl, rfl, 0, rfl⟩⟩
end Lw

set_option Elab.async false
set_option linter.all false
set_option maxRecDepth 100000
set_option maxHeartbeats 1000000
/-! Lw9: calls of defs and methods, what is made, built-in functions and methods. -/
namespace Lw
open PySem PySem.Spec PyProof.Rows L2

section
variable {n : Nm} {g : G} {fs : Nat → Option Fd} {l : Nat} {X : Cx} {c : Cc} {W : WX} {pos : Pos}
theorem wpF_some {f : Nat} {ds : List D} {M : Mem} {Qd : DK1} {xq : XK1} (h : wpF g fs l f ds M Qd xq) : ∃ d, fs f = some d := by
  cases l with
  | zero => exact h.elim
  | succ k =>
    obtain ⟨d, e, _⟩ := opt_elim h
    exact ⟨d, e⟩
/-- the callee runs -/
theorem run_def (ok : Ok n g fs l X c) (tk : Takes X W) {f : Nat} {pins : List (Addr × Obj)} {σ : L2.St} {H : Hp} {s : Shared} {Q : VK} {us : List Value} {vs : List V} {Z : Hp} {M : Mem} {ds : List D} {Qd : DK1} {xq : XK1}
    (I : Inv X pins σ H s) (r : Vals vs us) (R : Rel X.K n Z M H) (rr : Reps X.K n Z ds vs) (w : wpF g fs l f ds M Qd xq) (k : REnd X.K n Z Qd Q) (kx : RXn X.K n Z xq (WE W σ)) :
    wpAny (model X.prog X.w) X.A (call (.ref (He.fAd X.K (n.fn f))) us) (EP X pins σ Q) X.xe s := by
  obtain ⟨d, ed⟩ := wpF_some w
  obtain ⟨fd, ps, F, hb⟩ := ok.fns f d ed
  exact run_fnS (E := WE W) F (ok.room.mono (Nat.le_succ _)) hb (passAt tk σ) I r ⟨Z, M, ds, Qd, xq, R, rr, w, k, kx⟩
theorem c_call (ok : Ok n g fs l X c) (tk : Takes X W) {x : Str} {p : Pos} {args : List Expr} {f : Nat} {is : Es} (hx : isGl c x = true) (hf : n.fn f = (x, none)) (hs : (fs f).isSome = true) (hn : noStars args = true) (h0 : args = [] → is = .nil)
    (ha : PA X args (tA X.K n g fs l is W)) : PE X (.Call (.Name x p) args [] pos) (tE X.K n g fs l (.call f is) W) := by
  obtain ⟨d, ed⟩ := Option.isSome_iff_exists.mp hs
  obtain ⟨hm, hk⟩ := ok.fc.fn f d x ed hf
  obtain ⟨hg, hd⟩ := ok.gl hx
  refine ⟨fun pins s σ H Q I ⟨Z, env, M, Qd, xq, R, er, w, k, kx⟩ => ?_⟩
  simp only [wpE] at w
  refine wpAny_Call_Name_kw (ld_glob I hg hm ?_ hd)
  cases args with
  | nil =>
    have e := h0 rfl
    subst e
    simp only [wpEs] at w
    exact PySem.W.callWith_K0 I.kIn hk (run_def ok tk (us := []) I .nil R Reps.nil w k kx)
  | cons a as =>
    have hn2 : (noStar a && noStars as) = true := hn
    rw [Bool.and_eq_true] at hn2
    refine PySem.W.callWith_K (h₀ := X.base) I.ok.mod.kin hk (thn (ha.run pos pins s σ H (fun vs H1 => ∃ Z1 M1 ds, Same Z Z1 ∧ Rel X.K n Z1 M1 H1 ∧ Reps X.K n Z1 ds vs ∧ wpF g fs l f ds M1 Qd xq) I
      ⟨Z, env, M, _, xq, R, er, w, fun Z1 M1 H1 ds vs s1 R1 r1 w1 => ⟨Z1, M1, ds, s1, R1, r1, w1⟩, kx⟩) fun us s1 ⟨vs, H1, I1, r, Z1, M1, ds, s2, R1, r1, w1⟩ => ⟨I1.kIn, ?_⟩) (star_cons hn2.1) (stars_any hn2.2)
    exact run_def ok tk I1 r R1 r1 w1 (k.mono s2) (kx.mono s2)
theorem mthF_some {d : D} {m f : Nat} (h : mthF g d m = some f) : ∃ cl fl vs, d = .ins cl fl vs ∧ m ∉ fl ∧ g.mt cl m = some f := by
  unfold mthF at h
  split at h
  · split at h
    · cases h
    · rename_i hm
      exact ⟨_, _, _, rfl, hm, h⟩
  · cases h
theorem c_meth (ok : Ok n g fs l X c) (tk : Takes X W) {o : Expr} {m : Str} {apos : Pos} {args : List Expr} {mi : Nat} {io : E} {is : Es} (hs : notSuper o = true) (hl : (apos.endLine == pos.line) = true) (hm : m = n.nm mi) (hn : noStars args = true) (h30 : args.length < 30)
    (h0 : args = [] → is = .nil) (ho : PE X o (tE X.K n g fs l io W)) (ha : PA X args (tA X.K n g fs l is W)) : PE X (.Call (.Attribute o m apos) args [] pos) (tE X.K n g fs l (.meth mi io is) W) := by
  refine ⟨fun pins s σ H Q I ⟨Z, env, M, Qd, xq, R, er, w, k, kx⟩ => ?_⟩
  simp only [wpE] at w
  refine methcall_of ho I ⟨Z, env, M, _, xq, R, er, w, fun Z1 M1 H1 d v s1 R1 r1 w1 => ?_, kx⟩ (mcall_tree hs hl hn h30)
  obtain ⟨f, ef, w1⟩ := opt_elim w1
  obtain ⟨cl, fl, vs, ed, hf, eg⟩ := mthF_some ef
  have vw := r1.deref R1
  rw [ed] at vw
  obtain ⟨b, dx, ws, ev, h1, h2, h3⟩ := vw
  obtain ⟨hc, hme⟩ := ok.fc.mth cl mi f eg
  subst hm
  refine ⟨b, _, dx, ws, _, ev, h1, hc, hme, look_none ok.fc.inj hf h2, fun s1' I1 => ?_⟩
  subst ev
  cases args with
  | nil =>
    have e := h0 rfl
    subst e
    simp only [wpEs] at w1
    exact PySem.W.callWith_K0 I1.kIn hme.kp (run_def ok tk (us := [.ref b]) (vs := [.ref b]) I1 (.cons rfl .nil) R1 (Reps.cons r1 Reps.nil) w1 (k.mono s1) (kx.mono s1))
  | cons a as =>
    have hn2 : (noStar a && noStars as) = true := hn
    rw [Bool.and_eq_true] at hn2
    refine PySem.W.callWith_K (h₀ := X.base) I1.ok.mod.kin hme.kp (thn (ha.run pos pins s1' σ H1 (fun vs H2 => ∃ Z2 M2 ds, Same Z1 Z2 ∧ Rel X.K n Z2 M2 H2 ∧ Reps X.K n Z2 ds vs ∧ wpF g fs l f (d :: ds) M2 Qd xq) I1
      ⟨Z1, env, M1, _, xq, R1, er.mono s1, w1, fun Z2 M2 H2 ds vs s2 R2 r2 w2 => ⟨Z2, M2, ds, s2, R2, r2, w2⟩, kx.mono s1⟩) fun us s2 ⟨vs, H2, I2, r, Z2, M2, ds, s3, R2, r2, w2⟩ => ⟨I2.kIn, ?_⟩) (star_cons hn2.1) (stars_any hn2.2)
    exact run_def ok tk (us := .ref b :: us) (vs := .ref b :: vs) I2 (.cons rfl r) R2 (Reps.cons (Rep.mono _ _ s3 d r1) r2) w2 (k.mono (s1.trans s3)) (kx.mono (s1.trans s3))
/-- what may change is made what never will -/
theorem frz_ok {K : PySem.W.Frag} {Z H : Hp} {M : Mem} {d : D} {v : V} {p : D × Mem} (R : Rel K n Z M H) (r : Rep K n Z d v) (e : frzF M d = some p) : ∃ Z2, Same Z Z2 ∧ Rel K n Z2 p.2 H ∧ Rep K n Z2 p.1 v := by
  unfold frzF at e
  split at e
  · rename_i a
    have ev : v = .ref a := by
      unfold Rep at r
      exact r
    split at e
    · rename_i xs em
      cases e
      obtain ⟨hz, vs, h1, h2⟩ := R.may a _ em
      have s : Same Z (upd Z a (.lst vs)) := same_upd hz
      subst ev
      exact ⟨_, s, R.freeze em h1, rep_lst upd_same (Reps.mono _ _ s xs h2)⟩
    · rename_i cl fl vs em
      cases e
      obtain ⟨hz, dx, ws, h1, h2, h3⟩ := R.may a _ em
      have s : Same Z (upd Z a (.ins (cad K n cl) dx ws)) := same_upd hz
      subst ev
      refine ⟨_, s, R.freeze em h1, ?_⟩
      unfold Rep
      exact ⟨a, dx, ws, rfl, upd_same, h2, Reps.mono _ _ s vs h3⟩
    · cases e
  · cases e
theorem c_make (ok : Ok n g fs l X c) (tk : Takes X W) {x : Str} {p : Pos} {args : List Expr} {ci fi : Nat} {fz : Bool} {is : Es} (hx : isGl c x = true) (ex : x = n.nm ci) (hi : g.ini ci = some fi) (hs : (fs fi).isSome = true) (hn : noStars args = true) (h0 : args = [] → is = .nil)
    (ha : PA X args (tA X.K n g fs l is W)) : PE X (.Call (.Name x p) args [] pos) (tE X.K n g fs l (.make ci fz is) W) := by
  obtain ⟨d, ed⟩ := Option.isSome_iff_exists.mp hs
  obtain ⟨mk, hm⟩ := ok.fc.ini ci fi hi
  obtain ⟨hg, hd⟩ := ok.gl hx
  obtain ⟨fd, ps, F, hb⟩ := ok.fns fi d ed
  subst ex
  have go : ∀ (pins : List (Addr × Obj)) (σ : L2.St) (H : Hp) (s : Shared) (us : List Value) (vs : List V) (Z : Hp) (M : Mem) (ds : List D) (Qd : DK1) (xq : XK1) (Q : VK), Inv X pins σ H s → Vals vs us → Rel X.K n Z M H → Reps X.K n Z ds vs → REnd X.K n Z Qd Q → RXn X.K n Z xq (WE W σ) →
      (∀ a, M a = none → opt (g.ini ci) fun f => wpF g fs l f (.loc a :: ds) (M.set a (.ins ci [] [])) (fun v M2 => v = .non ∧
        match (generalizing := false) fz with
        | true => opt (frzF M2 (.loc a)) fun p => Qd p.1 p.2
        | false => Qd (.loc a) M2) xq) → wpAny (model X.prog X.w) X.A (call (.ref (cad X.K n ci)) us) (EP X pins σ Q) X.xe s := by
    intro pins σ H s us vs Z M ds Qd xq Q I r R rr k kx w
    refine run_makeS (E := WE W σ) mk F ok.room hb (passAt tk σ) I r fun a dx ha hdx hne => ?_
    have w1 := w a (R.fresh ha).2
    rw [hi, opt_some] at w1
    have hz := (R.fresh ha).1
    have ha2 : upd H dx (.own a) a = none := by rw [upd_ne (Ne.symm hne)]; exact ha
    have R2 : Rel X.K n Z (M.set a (.ins ci [] [])) (upd (upd H dx (.own a)) a (.ins (cad X.K n ci) dx [])) := (R.junk hdx).put hz ⟨dx, [], upd_same, rfl, Reps.nil⟩
    refine ⟨Z, _, .loc a :: ds, _, xq, R2, Reps.cons rep_loc rr, w1, fun Z3 M3 H3 v u s3 R3 r3 q3 => ?_, kx⟩
    obtain ⟨ev, q3⟩ := q3
    subst ev
    have eu : u = .non := by
      unfold Rep at r3
      exact r3
    refine ⟨eu, ?_⟩
    cases fz with
    | false => exact k Z3 M3 H3 (.loc a) (.ref a) s3 R3 rep_loc q3
    | true =>
      obtain ⟨p, ep, q3⟩ := opt_elim q3
      obtain ⟨Z4, s4, R4, r4⟩ := frz_ok R3 (rep_loc (Z := Z3)) ep
      exact k Z4 p.2 H3 p.1 (.ref a) (s3.trans s4) R4 r4 q3
  refine ⟨fun pins s σ H Q I ⟨Z, env, M, Qd, xq, R, er, w, k, kx⟩ => ?_⟩
  simp only [wpE] at w
  refine wpAny_Call_Name_kw (ld_glob I hg hm ?_ hd)
  cases args with
  | nil =>
    have e := h0 rfl
    subst e
    simp only [wpEs] at w
    exact PySem.W.callWith_K0 I.kIn mk.kp (go pins σ H s [] [] Z M [] Qd xq Q I .nil R Reps.nil k kx w)
  | cons a as =>
    have hn2 : (noStar a && noStars as) = true := hn
    rw [Bool.and_eq_true] at hn2
    refine PySem.W.callWith_K (h₀ := X.base) I.ok.mod.kin mk.kp (thn (ha.run pos pins s σ H (fun vs H1 => ∃ Z1 M1 ds, Same Z Z1 ∧ Rel X.K n Z1 M1 H1 ∧ Reps X.K n Z1 ds vs ∧ (∀ a, M1 a = none → opt (g.ini ci) fun f => wpF g fs l f (.loc a :: ds) (M1.set a (.ins ci [] [])) (fun v M2 => v = .non ∧
        match (generalizing := false) fz with
        | true => opt (frzF M2 (.loc a)) fun p => Qd p.1 p.2
        | false => Qd (.loc a) M2) xq)) I
      ⟨Z, env, M, _, xq, R, er, w, fun Z1 M1 H1 ds vs s1 R1 r1 w1 => ⟨Z1, M1, ds, s1, R1, r1, w1⟩, kx⟩) fun us s1 ⟨vs, H1, I1, r, Z1, M1, ds, s2, R1, r1, w1⟩ => ⟨I1.kIn, ?_⟩) (star_cons hn2.1) (stars_any hn2.2)
    exact go pins σ H1 s1 us vs Z1 M1 ds Qd xq Q I1 r R1 r1 (k.mono s2) (kx.mono s2) w1
theorem c_frz {e : Expr} {ie : E} (he : PE X e (tE X.K n g fs l ie W)) : PE X e (tE X.K n g fs l (.frz ie) W) := he.mono fun σ H Q ⟨Z, env, M, Qd, xq, R, er, w, k, kx⟩ => by
  simp only [wpE] at w
  refine ⟨Z, env, M, _, xq, R, er, w, fun Z1 M1 H1 d v s1 R1 r1 w1 => ?_, kx⟩
  obtain ⟨p, ep, w1⟩ := opt_elim w1
  obtain ⟨Z2, s2, R2, r2⟩ := frz_ok R1 r1 ep
  exact k Z2 p.2 H1 p.1 v (s1.trans s2) R2 r2 w1

/-! ### built-in functions -/
def biN : Bi → Str
  | .len => "len"
  | .all => "all"
  | .any => "any"
  | .tuple => "tuple"
  | .list => "list"
  | .int => "int"
  | .min2 => "min"
  | .max2 => "max"
  | .maxl => "max"
  | .minl => "min"
  | .sum => "sum"
  | .str => "str"
  | .abs => "abs"
  | .sorted => "sorted"
  | .lrng1 => "list"
  | .lrng2 => "list"
  | .isi _ => "isinstance"
/-- those that take their values as any call does -/
def biP : Bi → Bool
  | .sorted => false
  | .lrng1 => false
  | .lrng2 => false
  | .isi _ => false
  | _ => true
theorem rbi_mono {K : PySem.W.Frag} {b : Bi} {is : Es} {m : Bool} : ∀ σ H Q, tE K n g fs l (.bi m b is) W σ H Q → tCB (rBi K n g m b) (tA K n g fs l is W) σ H Q := fun σ H Q ⟨Z, env, M, Qd, xq, R, er, w, k, kx⟩ => by
  simp only [wpE] at w
  refine ⟨Z, env, M, _, xq, R, er, w, fun Z1 M1 H1 ds vs s1 R1 r1 w1 => ?_, kx⟩
  obtain ⟨z, ez, w1⟩ := opt_elim w1
  exact ⟨Z1, M1, ds, z, Qd, R1, r1, ez, w1, k.mono s1⟩
theorem c_bi (ok : Ok n g fs l X c) {x : Str} {p : Pos} {e : Expr} {es : List Expr} {m : Bool} {b : Bi} {is : Es} (hb : biP b = true) (hx : isGl c x = true) (ex : x = biN b) (hn : noStars (e :: es) = true) (ha : PA X (e :: es) (tA X.K n g fs l is W)) :
    PE X (.Call (.Name x p) (e :: es) [] pos) (tE X.K n g fs l (.bi m b is) W) := by
  have hn2 : (noStar e && noStars es) = true := hn
  rw [Bool.and_eq_true] at hn2
  obtain ⟨hg, hd⟩ := ok.gl hx
  subst ex
  cases b with
  | len => exact (pe_callB len_ok hg (ok.fc.free _ (by decide)) (by rfl) ha (by decide) hd (star_cons hn2.1) (stars_any hn2.2)).mono rbi_mono
  | all => exact (pe_callB (all_ok ok.calm) hg (ok.fc.free _ (by decide)) (by rfl) ha (by decide) hd (star_cons hn2.1) (stars_any hn2.2)).mono rbi_mono
  | any => exact (pe_callB (any_ok ok.calm) hg (ok.fc.free _ (by decide)) (by rfl) ha (by decide) hd (star_cons hn2.1) (stars_any hn2.2)).mono rbi_mono
  | tuple => exact (pe_callTy tuple_ok hg (ok.fc.free _ (by decide)) (by rfl) ha (by decide) hd (star_cons hn2.1) (stars_any hn2.2)).mono rbi_mono
  | list => exact (pe_callTy (list_ok ok.calm) hg (ok.fc.free _ (by decide)) (by rfl) ha (by decide) hd (star_cons hn2.1) (stars_any hn2.2)).mono rbi_mono
  | int => exact (pe_callTy int_ok hg (ok.fc.free _ (by decide)) (by rfl) ha (by decide) hd (star_cons hn2.1) (stars_any hn2.2)).mono rbi_mono
  | min2 => exact (pe_callB (min2_ok ok.calm) hg (ok.fc.free _ (by decide)) (by rfl) ha (by decide) hd (star_cons hn2.1) (stars_any hn2.2)).mono rbi_mono
  | max2 => exact (pe_callB (max2_ok ok.calm) hg (ok.fc.free _ (by decide)) (by rfl) ha (by decide) hd (star_cons hn2.1) (stars_any hn2.2)).mono rbi_mono
  | maxl => exact (pe_callB (maxl_ok ok.calm) hg (ok.fc.free _ (by decide)) (by rfl) ha (by decide) hd (star_cons hn2.1) (stars_any hn2.2)).mono rbi_mono
  | minl => exact (pe_callB (minl_ok ok.calm) hg (ok.fc.free _ (by decide)) (by rfl) ha (by decide) hd (star_cons hn2.1) (stars_any hn2.2)).mono rbi_mono
  | sum => exact (pe_callB (sum_ok ok.calm) hg (ok.fc.free _ (by decide)) (by rfl) ha (by decide) hd (star_cons hn2.1) (stars_any hn2.2)).mono rbi_mono
  | str => exact (pe_callTy str_ok hg (ok.fc.free _ (by decide)) (by rfl) ha (by decide) hd (star_cons hn2.1) (stars_any hn2.2)).mono rbi_mono
  | abs => exact (pe_callB abs_ok hg (ok.fc.free _ (by decide)) (by rfl) ha (by decide) hd (star_cons hn2.1) (stars_any hn2.2)).mono rbi_mono
  | _ => cases hb

/-! ### built-in methods -/
def bmN : Bm → Str
  | .append => "append"
  | .extend => "extend"
  | .popAt => "pop"
  | .join => "join"
  | .split => "split"
  | .upper => "upper"
  | .get => "get"
def bmTy : Bm → String
  | .append => "list"
  | .extend => "list"
  | .popAt => "list"
  | .join => "str"
  | .split => "str"
  | .upper => "str"
  | .get => "dict"
theorem bmT_ty {K : PySem.W.Frag} {Z H : Hp} {b : Bm} {d : D} {v : V} (vw : View K n Z H d v) (h : bmT b d = true) : tyV K (bmTy b) v H := by
  unfold bmT at h
  split at h
  · obtain ⟨a, vs, e, h1, h2⟩ := vw
    subst e
    exact .inl ⟨rfl, vs, SqL.of h1⟩
  · obtain ⟨a, vs, e, h1, h2⟩ := vw
    subst e
    exact .inl ⟨rfl, vs, SqL.of h1⟩
  · obtain ⟨a, vs, e, h1, h2⟩ := vw
    subst e
    exact .inl ⟨rfl, vs, SqL.of h1⟩
  · have e : v = V.str _ := vw
    subst e
    rfl
  · have e : v = V.str _ := vw
    subst e
    rfl
  · have e : v = V.str _ := vw
    subst e
    rfl
  · obtain ⟨a, ws, e, h1, h2⟩ := vw
    subst e
    exact .inr (.inr (.inl ⟨rfl, .inl ⟨ws, h1⟩⟩))
  · cases h
theorem rbm_mono {K : PySem.W.Frag} {b : Bm} {io : E} {is : Es} {m : Bool} : ∀ σ H Q, tE K n g fs l (.bm m b io is) W σ H Q → tBM K (bmTy b) (rBm K n m b) (tE K n g fs l io W) (tA K n g fs l is W) σ H Q := fun σ H Q ⟨Z, env, M, Qd, xq, R, er, w, k, kx⟩ => by
  simp only [wpE] at w
  refine ⟨Z, env, M, _, xq, R, er, w, fun Z1 M1 H1 d v s1 R1 r1 w1 => ⟨bmT_ty (r1.deref R1) w1.1, Z1, env, M1, _, xq, R1, er.mono s1, w1.2, fun Z2 M2 H2 ds vs s2 R2 r2 w2 => ?_, kx.mono s1⟩, kx⟩
  exact ⟨Z2, M2, d, ds, Qd, R2, Rep.mono _ _ s2 d r1, r2, w2, k.mono (s1.trans s2)⟩
theorem rbm_mono0 {K : PySem.W.Frag} {b : Bm} {io : E} {m : Bool} : ∀ σ H Q, tE K n g fs l (.bm m b io .nil) W σ H Q → tBM0 K (bmTy b) (rBm K n m b) (tE K n g fs l io W) σ H Q := fun σ H Q ⟨Z, env, M, Qd, xq, R, er, w, k, kx⟩ => by
  simp only [wpE, wpEs] at w
  refine ⟨Z, env, M, _, xq, R, er, w, fun Z1 M1 H1 d v s1 R1 r1 w1 => ⟨bmT_ty (r1.deref R1) w1.1, Z1, M1, d, [], Qd, R1, r1, Reps.nil, w1.2, k.mono s1⟩, kx⟩
theorem few_ok {e : Expr} {es : List Expr} {env : Env} {p : Pos} (hn : noStars (e :: es) = true) (h : (e :: es).length < 30) : ((backTo p (starEach (e :: es) env)).all (fun x => !x.1) && (backToKw p (keywordEach [] env)).all (fun x => x.1.isSome)
      && decide ((e :: es).length + ([] : List Keyword).length + (if ([] : List Keyword).isEmpty then 0 else 1) < 30)) = true := by
  rw [stars_all hn]
  show (true && true && decide ((e :: es).length + 0 + 0 < 30)) = true
  rw [decide_eq_true (by omega)] <;> rfl
theorem c_bm (ok : Ok n g fs l X c) {o e : Expr} {es : List Expr} {m : Str} {apos : Pos} {mu : Bool} {b : Bm} {io : E} {is : Es} (hs : notSuper o = true) (hl : (apos.endLine == pos.line) = true) (em : m = bmN b) (hn : noStars (e :: es) = true) (h30 : (e :: es).length < 30)
    (ho : PE X o (tE X.K n g fs l io W)) (ha : PA X (e :: es) (tA X.K n g fs l is W)) : PE X (.Call (.Attribute o m apos) (e :: es) [] pos) (tE X.K n g fs l (.bm mu b io is) W) := by
  have hn2 : (noStar e && noStars es) = true := hn
  rw [Bool.and_eq_true] at hn2
  subst em
  cases b with
  | append => exact (pe_bm PySem.F.plainAttrs_list PySem.F.slot_list_append PySem.F.type_list_append append_ok ho ha (base_of hs) (few_ok hn h30) hl (star_cons hn2.1) (stars_any hn2.2)).mono rbm_mono
  | extend => exact (pe_bm PySem.F.plainAttrs_list PySem.F.slot_list_extend PySem.F.type_list_extend extend_ok ho ha (base_of hs) (few_ok hn h30) hl (star_cons hn2.1) (stars_any hn2.2)).mono rbm_mono
  | popAt => exact (pe_bm PySem.F.plainAttrs_list PySem.F.slot_list_pop PySem.F.type_list_pop popAt_ok ho ha (base_of hs) (few_ok hn h30) hl (star_cons hn2.1) (stars_any hn2.2)).mono rbm_mono
  | join => exact (pe_bm PySem.F.plainAttrs_str PySem.F.slot_str_join PySem.F.type_str_join join_ok ho ha (base_of hs) (few_ok hn h30) hl (star_cons hn2.1) (stars_any hn2.2)).mono rbm_mono
  | split => exact (pe_bm PySem.F.plainAttrs_str PySem.F.slot_str_split PySem.F.type_str_split split_ok ho ha (base_of hs) (few_ok hn h30) hl (star_cons hn2.1) (stars_any hn2.2)).mono rbm_mono
  | upper => exact (pe_bm PySem.F.plainAttrs_str PySem.F.slot_str_upper PySem.F.type_str_upper upper_ok ho ha (base_of hs) (few_ok hn h30) hl (star_cons hn2.1) (stars_any hn2.2)).mono rbm_mono
  | get => exact (pe_bm PySem.F.plainAttrs_dict PySem.F.slot_dict_get PySem.F.type_dict_get (get_ok ok.hu1) ho ha (base_of hs) (few_ok hn h30) hl (star_cons hn2.1) (stars_any hn2.2)).mono rbm_mono
theorem c_bm0 (ok : Ok n g fs l X c) {o : Expr} {m : Str} {apos : Pos} {mu : Bool} {b : Bm} {io : E} (hs : notSuper o = true) (hl : (apos.endLine == pos.line) = true) (em : m = bmN b)
    (ho : PE X o (tE X.K n g fs l io W)) : PE X (.Call (.Attribute o m apos) [] [] pos) (tE X.K n g fs l (.bm mu b io .nil) W) := by
  subst em
  cases b with
  | append => exact (pe_bm0 PySem.F.plainAttrs_list PySem.F.slot_list_append PySem.F.type_list_append append_ok ho (base_of hs) hl).mono rbm_mono0
  | extend => exact (pe_bm0 PySem.F.plainAttrs_list PySem.F.slot_list_extend PySem.F.type_list_extend extend_ok ho (base_of hs) hl).mono rbm_mono0
  | popAt => exact (pe_bm0 PySem.F.plainAttrs_list PySem.F.slot_list_pop PySem.F.type_list_pop popAt_ok ho (base_of hs) hl).mono rbm_mono0
  | join => exact (pe_bm0 PySem.F.plainAttrs_str PySem.F.slot_str_join PySem.F.type_str_join join_ok ho (base_of hs) hl).mono rbm_mono0
  | split => exact (pe_bm0 PySem.F.plainAttrs_str PySem.F.slot_str_split PySem.F.type_str_split split_ok ho (base_of hs) hl).mono rbm_mono0
  | upper => exact (pe_bm0 PySem.F.plainAttrs_str PySem.F.slot_str_upper PySem.F.type_str_upper upper_ok ho (base_of hs) hl).mono rbm_mono0
  | get => exact (pe_bm0 PySem.F.plainAttrs_dict PySem.F.slot_dict_get PySem.F.type_dict_get (get_ok ok.hu1) ho (base_of hs) hl).mono rbm_mono0

/-! ### [::-1], list(range(..)) -/
theorem c_rev {a : Expr} {ia : E} {m : Bool} {k : Nat} {p1 p2 p3 : Pos} (ha : PE X a (tE X.K n g fs l ia W)) : PE X (.Subscript a (.Slice none none (some (.UnaryOp .USub (.Constant (.int 1) k p1) p2)) p3) pos) (tE X.K n g fs l (.rev m ia) W) :=
  (pe_rev ha).mono fun σ H Q ⟨Z, env, M, Qd, xq, R, er, w, kk, kx⟩ => by
    simp only [wpE] at w
    refine ⟨Z, env, M, _, xq, R, er, w, fun Z1 M1 H1 d v s1 R1 r1 w1 => ?_, kx⟩
    obtain ⟨z, ez, w1⟩ := opt_elim w1
    have vw := r1.deref R1
    unfold revF at ez
    split at ez
    · rename_i xs ed
      rw [ed] at vw
      cases ez
      obtain ⟨b, vs, ev, h1, h2⟩ := vw
      exact ⟨b, vs, ev, .inl ⟨SqL.of h1, fun q hq => fin_lst R1 (kk.mono s1) h2.reverse w1 hq⟩⟩
    · rename_i xs ed
      rw [ed] at vw
      cases ez
      obtain ⟨b, vs, ev, h1, h2⟩ := vw
      exact ⟨b, vs, ev, .inr ⟨R1.T h1, fun q hq => fin_tup R1 (kk.mono s1) h2.reverse w1 hq⟩⟩
    · cases ez
theorem reps_rng {K : PySem.W.Frag} {Z : Hp} (a b : Int) : Reps K n Z (rngL a b) (rgV a b) := Reps.map (f := fun i : Nat => D.int (a + i)) (g := fun i : Nat => V.int (a + i)) (fun x => rep_int) _
theorem c_lrng1 (ok : Ok n g fs l X c) {x y : Str} {p p2 q : Pos} {e : Expr} {ie : E} {m : Bool} (hx : isGl c x = true) (ex : x = ("list" : Str)) (hy : isGl c y = true) (ey : y = ("range" : Str)) (hn : noStar e = true) (he : PE X e (tE X.K n g fs l ie W)) :
    PE X (.Call (.Name x p) [.Call (.Name y p2) [e] [] q] [] pos) (tE X.K n g fs l (.bi m .lrng1 (.cons ie .nil)) W) := by
  subst ex ey
  refine (pe_listRg ok.calm (ok.gl hx).1 (ok.fc.free _ (by decide)) (prg_1 (ok.gl hy).1 (ok.fc.free _ (by decide)) he (star_cons hn)) (star_cons rfl)).mono fun σ H Q ⟨Z, env, M, Qd, xq, R, er, w, kk, kx⟩ => ?_
  simp only [wpE, wpEs] at w
  refine ⟨Z, env, M, _, xq, R, er, w, fun Z1 M1 H1 d v s1 R1 r1 w1 => ?_, kx⟩
  obtain ⟨z, ez, w1⟩ := opt_elim w1
  have vw := r1.deref R1
  have ez : lrngF (.int 0) (deref M1 d) = some z := ez
  generalize deref M1 d = d' at vw ez
  cases d' with
  | int j =>
    simp only [lrngF] at ez
    split at ez
    · rename_i hr
      cases ez
      have ev : v = V.int j := vw
      exact ⟨j, ev, hr, fun q hq => fin_lst R1 (kk.mono s1) (reps_rng 0 j) w1 hq⟩
    · cases ez
  | _ =>
    simp only [lrngF] at ez
    cases ez
theorem c_lrng2 (ok : Ok n g fs l X c) {x y : Str} {p p2 q : Pos} {e f : Expr} {ie jf : E} {m : Bool} (hx : isGl c x = true) (ex : x = ("list" : Str)) (hy : isGl c y = true) (ey : y = ("range" : Str)) (hn : noStar e = true) (hf : noStar f = true) (he : PE X e (tE X.K n g fs l ie W)) (hff : PE X f (tE X.K n g fs l jf W)) :
    PE X (.Call (.Name x p) [.Call (.Name y p2) [e, f] [] q] [] pos) (tE X.K n g fs l (.bi m .lrng2 (.cons ie (.cons jf .nil))) W) := by
  subst ex ey
  refine (pe_listRg ok.calm (ok.gl hx).1 (ok.fc.free _ (by decide)) (prg_2 (ok.gl hy).1 (ok.fc.free _ (by decide)) he hff (star_cons hn) (star_cons hf) (by rw [star_cons hf]; rfl)) (star_cons rfl)).mono fun σ H Q ⟨Z, env, M, Qd, xq, R, er, w, kk, kx⟩ => ?_
  simp only [wpE, wpEs] at w
  refine ⟨Z, env, M, _, xq, R, er, w, fun Z1 M1 H1 d v s1 R1 r1 w1 => ⟨Z1, env, M1, _, xq, R1, er.mono s1, w1, fun Z2 M2 H2 d2 v2 s2 R2 r2 w2 => ?_, kx.mono s1⟩, kx⟩
  obtain ⟨z, ez, w2⟩ := opt_elim w2
  have vw := (Rep.mono _ _ s2 d r1).deref R2
  have vw2 := r2.deref R2
  have ez : lrngF (deref M2 d) (deref M2 d2) = some z := ez
  generalize deref M2 d = d' at vw ez
  generalize deref M2 d2 = d2' at vw2 ez
  unfold lrngF at ez
  split at ez
  · rename_i i j
    split at ez
    · rename_i hr
      cases ez
      have ev : v = V.int i := vw
      have ev2 : v2 = V.int j := vw2
      exact ⟨i, j, ev, ev2, hr, fun q hq => fin_lst R2 (kk.mono (s1.trans s2)) (reps_rng i j) w2 hq⟩
    · cases ez
  · cases ez
end
end Lw

set_option Elab.async false
set_option linter.all false
set_option maxRecDepth 100000
set_option maxHeartbeats 1000000
/-! Lw10: isinstance; dicts written out. -/
namespace Lw
open PySem PySem.Spec PyProof.Rows L2

section
variable {n : Nm} {g : G} {fs : Nat → Option Fd} {l : Nat} {X : Cx} {c : Cc} {W : WX} {pos : Pos}
/-! ### isinstance -/
def kdD : D → Option Kd
  | .non => some .non
  | .bl _ => some .bl
  | .int _ => some .int
  | .str _ => some .str
  | .tup _ => some .tup
  | .lst _ => some .lst
  | .dct _ _ => some .dct
  | .ins k _ _ => some (.cls k)
  | .scr _ => some .lst
  | .loc _ => none
theorem isiF_kd {t : Ity} {d : D} {b : Bool} (h : isiF g t d = some b) (ht : ityOk g t = true) : ∃ kd, kdD d = some kd ∧ kdOk g kd = true ∧ kitF t kd = b := by
  cases d with
  | loc a => cases t <;> cases h
  | ins k fl vs =>
    refine ⟨.cls k, rfl, ?_⟩
    cases t with
    | cls q =>
      simp only [isiF] at h
      split at h
      · rename_i hc
        cases h
        exact ⟨decide_eq_true hc.2, rfl⟩
      · cases h
    | _ =>
      simp only [isiF] at h
      split at h
      · rename_i hc
        cases h
        exact ⟨decide_eq_true hc, rfl⟩
      · cases h
  | _ =>
    refine ⟨_, rfl, rfl, ?_⟩
    cases t with
    | cls q =>
      simp only [isiF] at h
      split at h
      · cases h
        rfl
      · cases h
    | _ => cases h <;> rfl
theorem kd_ty (fc : Fc n g fs X.K X.mg) {Z H : Hp} {M : Mem} {d : D} {v : V} {kd : Kd} (R : Rel X.K n Z M H) (vw : View X.K n Z H d v) (e : kdD d = some kd) (hk : kdOk g kd = true) : TyX X.K H v (kdV X.K n kd) := by
  cases d with
  | non =>
    cases e
    have ev : v = V.non := vw
    subst ev
    exact .base .non
  | bl b =>
    cases e
    have ev : v = V.bl b := vw
    subst ev
    exact .base (.bl b)
  | int b =>
    cases e
    have ev : v = V.int b := vw
    subst ev
    exact .base (.int b)
  | str b =>
    cases e
    have ev : v = V.str _ := vw
    subst ev
    exact .base (.str _)
  | tup ds =>
    cases e
    obtain ⟨a, vs, ev, h1, h2⟩ := vw
    subst ev
    rcases R.T h1 with (h | ⟨o, h⟩) | ⟨o, its, m, h, hc, _⟩
    · exact .base (.tup h)
    · exact .fTuple h
    · exact .kTuple h hc
  | lst ds =>
    cases e
    obtain ⟨a, vs, ev, h1, h2⟩ := vw
    subst ev
    exact .base (.lst h1)
  | dct ks ds =>
    cases e
    obtain ⟨a, ws, ev, h1, h2⟩ := vw
    subst ev
    exact .base (.dK h1)
  | ins k fl ds =>
    cases e
    obtain ⟨a, dx, ws, ev, h1, h2⟩ := vw
    subst ev
    obtain ⟨_, h4, h5, h6, h7, h8⟩ := fc.tyc k (of_decide_eq_true hk)
    exact .base (.ins h1 h4 h5 h6 h7 h8)
  | scr ns =>
    cases e
    obtain ⟨a, ev, h1⟩ := vw
    subst ev
    rcases h1 with (h | ⟨o, h⟩) | ⟨o, its, m, h, hc, _⟩
    · exact .base (.lst h)
    · exact .base (.frz h)
    · exact .kList h hc
  | loc a => cases e
def ityW (K : PySem.W.Frag) (n : Nm) : Ity → V
  | .int => .ty "int"
  | .bool => .ty "bool"
  | .str => .ty "str"
  | .tup => .ty "tuple"
  | .lst => .ty "list"
  | .dct => .ty "dict"
  | .cls c => .ref (cad K n c)
def ityNm (n : Nm) : Ity → Str
  | .int => "int"
  | .bool => "bool"
  | .str => "str"
  | .tup => "tuple"
  | .lst => "list"
  | .dct => "dict"
  | .cls c => n.nm c
theorem ity_cls (K : PySem.W.Frag) (t : Ity) : ClsV (ityW K n t) (ityV K n t) := by
  cases t <;> constructor
theorem ity_pe (ok : Ok n g fs l X c) {x : Str} {t : Ity} (hx : isGl c x = true) (ex : x = ityNm n t) (ht : ityOk g t = true) : PE X (.Name x pos) (tC (ityW X.K n t)) := by
  obtain ⟨hg, hd⟩ := ok.gl hx
  subst ex
  cases t with
  | cls k => exact pe_glob hg (ok.fc.tyc k (of_decide_eq_true ht)).1 rfl hd
  | int => exact pe_bltn (x := "int") hg (ok.fc.free "int" (by decide)) (by rfl) rfl (by decide) hd
  | bool => exact pe_bltn (x := "bool") hg (ok.fc.free "bool" (by decide)) (by rfl) rfl (by decide) hd
  | str => exact pe_bltn (x := "str") hg (ok.fc.free "str" (by decide)) (by rfl) rfl (by decide) hd
  | tup => exact pe_bltn (x := "tuple") hg (ok.fc.free "tuple" (by decide)) (by rfl) rfl (by decide) hd
  | lst => exact pe_bltn (x := "list") hg (ok.fc.free "list" (by decide)) (by rfl) rfl (by decide) hd
  | dct => exact pe_bltn (x := "dict") hg (ok.fc.free "dict" (by decide)) (by rfl) rfl (by decide) hd
theorem c_isi (ok : Ok n g fs l X c) {x y : Str} {p p2 : Pos} {e : Expr} {ie : E} {m : Bool} {t : Ity} (hx : isGl c x = true) (ex : x = ("isinstance" : Str)) (hy : isGl c y = true) (ey : y = ityNm n t) (ht : ityOk g t = true) (hn : noStar e = true)
    (he : PE X e (tE X.K n g fs l ie W)) : PE X (.Call (.Name x p) [e, .Name y p2] [] pos) (tE X.K n g fs l (.bi m (.isi [t]) (.cons ie .nil)) W) := by
  obtain ⟨hg, hd⟩ := ok.gl hx
  subst ex
  refine (pe_callB call_isi hg (ok.fc.free _ (by decide)) (by rfl) (pa_cons he (pa_cons (ity_pe ok hy ey ht) pa_nil (star_cons rfl)) (star_cons hn)) (by decide) hd (star_cons hn) (stars_any rfl)).mono fun σ H Q ⟨Z, env, M, Qd, xq, R, er, w, k, kx⟩ => ?_
  simp only [wpE, wpEs] at w
  refine ⟨Z, env, M, _, xq, R, er, w, fun Z1 M1 H1 d v s1 R1 r1 w1 => ?_, kx⟩
  obtain ⟨z, ez, w1⟩ := opt_elim w1
  have ez : (isisF g [t] (deref M1 d)).map D.bl = some z := ez
  obtain ⟨b, eb, e2⟩ := Option.map_eq_some_iff.mp ez
  subst e2
  have hb : isiF g t (deref M1 d) = some b := by
    simp only [isisF] at eb
    split at eb
    · rename_i q
      rw [q]
      exact eb
    · rename_i q
      rw [q]
      exact eb
    · cases eb
  obtain ⟨kd, e1, e2, e3⟩ := isiF_kd hb ht
  have kt := ok.fc.kit t kd ht e2
  rw [e3] at kt
  exact ⟨v, _, _, _, b, rfl, ity_cls X.K t, kd_ty ok.fc R1 (r1.deref R1) e1 e2, kt, fin_val R1 (k.mono s1) rep_bl (fun _ q => nomatch q) (fun _ _ q => nomatch q) w1⟩

/-! ### dicts written out -/
theorem fin_dct {K : PySem.W.Frag} {Z H : Hp} {M : Mem} {Qd : DK1} {Q : VK} (R : Rel K n Z M H) (k : REnd K n Z Qd Q) {m : Bool} {ks : List DK} {ds : List D} {ws : List (Key × V)} (hk : ws.map (·.1) = ks.map DK.key) (r : Reps K n Z ds (ws.map (·.2))) (h : fin m (.dct ks ds) M Qd) {p : Addr} (hp : H p = none) : Q (.ref p) (upd H p (.dK ws)) := by
  obtain ⟨hz, hm⟩ := R.fresh hp
  cases m with
  | false =>
    have s : Same Z (upd Z p (.dK ws)) := same_upd hz
    refine k _ _ _ (.dct ks ds) (.ref p) s (R.frozen hp) ?_ h
    unfold Rep
    exact ⟨p, ws, rfl, upd_same, hk, Reps.mono K n s ds r⟩
  | true =>
    have ro : RepO K n Z (upd H p (.dK ws)) p (.dct ks ds) := ⟨ws, upd_same, hk, r⟩
    exact k Z _ _ (.loc p) (.ref p) (Same.refl Z) (R.put hz ro) rep_loc (h p hm)
theorem c_dct0 {m : Bool} : PE X (.Dict [] [] pos) (tE X.K n g fs l (.dct m .nil .nil) W) := pe_dnewK.mono fun σ H Q ⟨Z, env, M, Qd, xq, R, er, w, k, kx⟩ => by
  simp only [wpE] at w
  exact fun p hp => fin_dct (ws := []) R k rfl Reps.nil w hp
theorem upd_twice {Z : Hp} {p : Addr} {o u : HO} : upd (upd Z p o) p u = upd Z p u := upd_upd
theorem hdel_upd {Z : Hp} {p : Addr} {o : HO} : hdel (upd Z p o) p = hdel Z p := by
  funext b
  by_cases q : b = p
  · subst q
    rw [hdel_same, hdel_same]
  · rw [hdel_ne q, hdel_ne q, upd_ne q]
/-- the dict that was being made is made -/
theorem made_dct {K : PySem.W.Frag} {Z0 Z H : Hp} {M : Mem} {Qd : DK1} {Q : VK} (R : Rel K n Z M H) (s : Same Z0 Z) (k : REnd K n Z0 Qd Q) {m : Bool} {ks : List DK} {ds : List D} {ws : List (Key × V)} {p : Addr} {u : HO} (hz : Z0 p = none) (hp : Z p = some (mkg u))
    (hk : ws.map (·.1) = ks.map DK.key) (r : Reps K n Z ds (ws.map (·.2))) (h : fin m (.dct ks ds) M Qd) : Q (.ref p) (upd H p (.dK ws)) := by
  have R1 := R.reguard (w := .dK ws) hp
  have sp : upd Z p (mkg (.dK ws)) p = some (mkg (.dK ws)) := upd_same
  cases m with
  | false =>
    have R2 := R1.made sp
    rw [upd_twice] at R2
    refine k _ _ _ (.dct ks ds) (.ref p) (same_guard s hz) R2 ?_ h
    unfold Rep
    exact ⟨p, ws, rfl, upd_same, hk, Reps.monoU K n (sameU_mkg hp) ds r⟩
  | true =>
    have ro : RepO K n (upd Z p (mkg (.dK ws))) (upd H p (.dK ws)) p (.dct ks ds) := ⟨ws, upd_same, hk, Reps.monoU K n (sameU_mkg hp) ds r⟩
    have R2 := R1.madeMut sp ro
    rw [hdel_upd] at R2
    exact k _ _ _ (.loc p) (.ref p) (same_hdel s hz) R2 rep_loc (h p (R.not_mk hp))
theorem c_dct1 {e f : Expr} {ie jf : E} {m : Bool} (he : PE X e (tE X.K n g fs l ie W)) (hf : PE X f (tE X.K n g fs l jf W)) : PE X (.Dict [some e] [f] pos) (tE X.K n g fs l (.dct m (.cons ie .nil) (.cons jf .nil)) W) :=
  (pe_disp (pps_cons he hf pps_nil) rfl rfl (by simp) (by simp)).mono fun σ H Q ⟨Z, env, M, Qd, xq, R, er, w, k, kx⟩ => by
    simp only [wpE] at w
    intro p hp
    obtain ⟨hz, hm⟩ := R.fresh hp
    have s0 : Same Z (upd Z p (mkg (.dK []))) := same_upd hz
    refine ⟨_, env, M, _, xq, R.guard hp, er.mono s0, w, fun Z1 M1 H1 d v s1 R1 r1 w1 => ⟨Z1, env, M1, _, xq, R1, er.mono (s0.trans s1), w1, fun Z2 M2 H2 d2 v2 s2 R2 r2 w2 => ?_, kx.mono (s0.trans s1)⟩, kx.mono s0⟩
    obtain ⟨q, eq, w2⟩ := opt_elim w2
    have hg2 : Z2 p = some (mkg (.dK [])) := s2 _ _ (s1 _ _ upd_same)
    have ev := keyF_view (H := H1) r1 eq
    exact ⟨R2.guarded hg2, [(q.key, v2)], by rw [ev]; rfl, by simp, made_dct R2 ((s0.trans s1).trans s2) k hz hg2 (ws := [(q.key, v2)]) rfl (Reps.one r2) w2⟩
end
end Lw

set_option Elab.async false
set_option linter.all false
set_option maxRecDepth 100000
set_option maxHeartbeats 1000000
/-! Lw11: enumerate and zip over lists, tuples, texts; enumerate of zip. -/
namespace Lw
open PySem PySem.Spec PyProof.Rows L2

/-! ### enumerate, over what draws its items somehow -/
section
variable {prog : Program} {w : World} {A : Around} {E : Value → Shared → Prop} {s : Shared}
abbrev pairObj (c : Int) (t : Tok) (x : Value) : Obj := { cls := .type "tuple", data := .seq #[.int c t, x] }
theorem enum_gen {e it : Addr} {c : Int} {old : Value} {Q : Value → Shared → Prop} (he : IsEnum s.heap e it c old)
    (hn : wpAny (model prog w) A (Builtin.SmallTypes.nextOf (.ref it)) (fun x s1 => IsEnum s1.heap e it c old ∧ ∀ (h2 : Heap) (t : Tok), IsEnumOut h2 e it (c + 1) x s1.heap.objs.size → h2.get? s1.heap.objs.size = some (pairObj c t x) → h2.objs.size = s1.heap.objs.size + 1 →
      (∀ b o, b ≠ e → s1.heap.get? b = some o → h2.get? b = some o) → Q (.ref s1.heap.objs.size) { s1 with heap := h2, toks := t + 1 }) E s) :
    wpAny (model prog w) A (Builtin.«enumerate.__next__» ⟨[.ref e], []⟩) (fun fin s2 => ∃ v, fin = .done (.ret v) ∧ Q v s2) E s := by
  show wpAny _ _ (field (.ref e) 2 >>= _) _ _ _
  refine wpAny_bind (wpAny_field he rfl (x := .ref it) rfl (wpAny_bind (thn hn fun x s1 ⟨e1, hq⟩ => ?_)))
  obtain ⟨h1, g1, d1, t1, o1⟩ := s1
  have e1 : IsEnum h1 e it c old := e1
  show wpAny _ _ (field (.ref e) 3 >>= _) _ _ ⟨h1, g1, d1, t1, o1⟩
  refine wpAny_bind (wpAny_field e1 rfl (x := rawInt c) rfl ?_)
  show wpAny _ _ (field (.ref e) 4 >>= _) _ _ ⟨h1, g1, d1, t1, o1⟩
  refine wpAny_bind (wpAny_field e1 rfl (x := .none) rfl ?_)
  show wpAny _ _ (mkInt c >>= _) _ _ ⟨h1, g1, d1, t1, o1⟩
  refine wpAny_bind (wpAny_mkInt ?_)
  show wpAny _ _ (setField (.ref e) 3 (rawInt (c + 1)) >>= _) _ _ ⟨h1, g1, d1, t1 + 1, o1⟩
  refine wpAny_bind (wpAny_setField_rec e1 (by simp) fun h2 e2 s2 => ?_)
  replace s2 : Heap.SameBut e h1 h2 := s2
  replace e2 : IsEnum h2 e it (c + 1) old := e2
  show wpAny _ _ (setField (.ref e) 4 .none >>= _) _ _ ⟨h2, g1, d1, t1 + 1, o1⟩
  refine wpAny_bind (wpAny_setField_rec e2 (by simp) fun h3 e3 s3 => ?_)
  replace s3 : Heap.SameBut e h2 h3 := s3
  replace e3 : IsEnum h3 e it (c + 1) old := e3
  show wpAny _ _ (newTuple [.int c t1, x] >>= _) _ _ ⟨h3, g1, d1, t1 + 1, o1⟩
  refine wpAny_bind (wpAny_newTuple ?_)
  have e4 : IsEnum (h3.push (pairObj c t1 x)) e it (c + 1) old := Heap.get?_push_of_some _ e3
  have z3 : h3.objs.size = h1.objs.size := by rw [s3.1, s2.1]
  have le : e < h1.objs.size := Heap.lt_size e1
  have k4 : ∀ b o, b ≠ e → h1.get? b = some o → (h3.push (pairObj c t1 x)).get? b = some o := fun b o q y => Heap.get?_push_of_some _ (s3.extBut b o q (s2.extBut b o q y))
  have p4 : (h3.push (pairObj c t1 x)).get? h1.objs.size = some (pairObj c t1 x) := by
    rw [← z3]
    exact Heap.get?_push_size _ rfl
  have n4 : (h3.push (pairObj c t1 x)).objs.size = h1.objs.size + 1 := by rw [Heap.size_push, z3]
  show wpAny _ _ (Builtin.SmallTypes.ownedTupleIsFree (.ref e) >>= _) _ _ ⟨h3.push (pairObj c t1 x), g1, d1, t1 + 1, o1⟩
  rw [z3]
  generalize h3.push (pairObj c t1 x) = h4 at e4 k4 p4 n4
  refine wpAny_bind ?_
  unfold Builtin.SmallTypes.ownedTupleIsFree
  refine wpAny_bind (wpAny_field e4 rfl (x := .none) rfl (wpAny_pure ?_))
  simp only [if_true]
  refine wpAny_bind (wpAny_rule (wpAny_bind (wpAny_field e4 rfl (x := old) rfl ?_)))
  refine wpAny_bind (wpAny_setField_rec e4 (by simp) fun h5 e5 s5 => ?_)
  replace s5 : Heap.SameBut e h4 h5 := s5
  replace e5 : IsEnum h5 e it (c + 1) x := e5
  show wpAny _ _ (Builtin.SmallTypes.ownedTupleHandOut (.ref e) (.ref h1.objs.size) >>= _) _ _ ⟨h5, g1, d1, t1 + 1, o1⟩
  refine wpAny_bind ?_
  unfold Builtin.SmallTypes.ownedTupleHandOut
  refine wpAny_bind (wpAny_setField_rec e5 (by simp) fun h6 e6 s6 => ?_)
  replace s6 : Heap.SameBut e h5 h6 := s6
  replace e6 : IsEnumOut h6 e it (c + 1) x h1.objs.size := e6
  refine wpAny_setField_rec e6 (by simp) fun h7 e7 s7 => ?_
  replace s7 : Heap.SameBut e h6 h7 := s7
  replace e7 : IsEnumOut h7 e it (c + 1) x h1.objs.size := e7
  refine wpAny_bind (wpAny_letGo (wpAny_pure ⟨_, rfl, hq h7 t1 e7 ?_ ?_ ?_⟩))
  · exact s7.extBut _ _ (Nat.ne_of_gt le) (s6.extBut _ _ (Nat.ne_of_gt le) (s5.extBut _ _ (Nat.ne_of_gt le) p4))
  · show h7.objs.size = h1.objs.size + 1
    rw [s7.1, s6.1, s5.1, n4]
  · exact fun b o q y => s7.extBut b o q (s6.extBut b o q (s5.extBut b o q (k4 b o q y)))
theorem enum_next {e it : Addr} {c : Int} {old : Value} {Q : Option Value → Shared → Prop} (he : IsEnum s.heap e it c old)
    (hn : wpAny (model prog w) A.in1 (Builtin.SmallTypes.nextOf (.ref it)) (fun x s1 => IsEnum s1.heap e it c old ∧ ∀ (h2 : Heap) (t : Tok), IsEnumOut h2 e it (c + 1) x s1.heap.objs.size → h2.get? s1.heap.objs.size = some (pairObj c t x) → h2.objs.size = s1.heap.objs.size + 1 →
      (∀ b o, b ≠ e → s1.heap.get? b = some o → h2.get? b = some o) → Q (some (.ref s1.heap.objs.size)) { s1 with heap := h2, toks := t + 1 }) (fun _ _ => False) s) :
    wpAny (model prog w) A (pyNext (.ref e)) Q E s := by
  have hT : s.TypeIs (.ref e) "enumerate" := ⟨_, he, rfl⟩
  unfold pyNext
  refine wpAny_bind (wpAny_attempt (wpAny_callSpecial?_slot (name := Str.ofString "__next__") hT F.slot_enumerate_next (wpAny_call_entry F.slot_enumerate_next hT F.entry_enumerate_next ?_ (F.args_enumerate_next_1 _))))
  exact thnF (enum_gen he (Q := fun v s2 => Q (some v) s2) hn) fun fin s2 ⟨v, ev, q⟩ => ⟨v, ev, wpAny_pure q⟩
theorem enum_end {e it : Addr} {c : Int} {old : Value} {Q : Option Value → Shared → Prop} (he : IsEnum s.heap e it c old)
    (hn : wpAny (model prog w) A.in1 (Builtin.SmallTypes.nextOf (.ref it)) (fun _ _ => False) (fun x s1 => (∃ a o, x = .ref a ∧ s1.heap.get? a = some o ∧ o.cls = .type "StopIteration") ∧ Q none s1) s) :
    wpAny (model prog w) A (pyNext (.ref e)) Q E s := by
  have hT : s.TypeIs (.ref e) "enumerate" := ⟨_, he, rfl⟩
  unfold pyNext
  refine wpAny_bind (wpAny_attempt (wpAny_callSpecial?_slot (name := Str.ofString "__next__") hT F.slot_enumerate_next (wpAny_call_entry F.slot_enumerate_next hT F.entry_enumerate_next ?_ (F.args_enumerate_next_1 _))))
  show wpAny _ _ (field (.ref e) 2 >>= _) _ _ _
  refine wpAny_bind (wpAny_field he rfl (x := .ref it) rfl (wpAny_bind ?_))
  refine wpAny_mono hn (fun _ _ q => q.elim) fun x s1 q => ?_
  obtain ⟨⟨a, o, ex, ho, hc⟩, q⟩ := q
  subst ex
  exact wpAny_bind (wpAny_isInstance (T := "StopIteration") (b := true) ⟨o, ho, hc⟩ isSubtype_stop (wpAny_pure q))

/-! ### zip -/
abbrev ZipIs (h : Heap) (z TI TO : Addr) (v : Value) (f : Bool) : Prop := h.get? z = some { cls := .type "zip", dict := none, data := .fields #[v, .bool f, .bool false, .ref TI, .ref TO], slots := #[] }
def OutV (v : Value) : Prop := v = .none ∨ ∃ T : Addr, v = rawInt T
theorem alive_at {a : Addr} {o : Option Obj} {Q : Option Obj → Shared → Prop} (ho : s.heap.get? a = o) (h : Q o s) : wpAny (model prog w) A (loadIfAlive a) Q E s := by
  have q : Q (s.heap.get? a) s := by
    rw [ho]
    exact h
  exact fun _ _ _ => q
theorem zip_free {z TI TO : Addr} {v : Value} {f : Bool} {Q : Bool → Shared → Prop} (hz : ZipIs s.heap z TI TO v f) (hv : OutV v)
    (h : ∀ b h2 f2, ZipIs h2 z TI TO v f2 → Heap.SameBut z s.heap h2 → Q b { s with heap := h2 }) : wpAny (model prog w) A (Builtin.SmallTypes.ownedTupleIsFree (.ref z)) Q E s := by
  unfold Builtin.SmallTypes.ownedTupleIsFree
  rcases hv with ev | ⟨T, ev⟩
  · subst ev
    exact wpAny_bind (wpAny_field hz rfl (x := .none) rfl (wpAny_pure (h true s.heap f hz (Heap.SameBut.refl _ _))))
  · subst ev
    refine wpAny_bind (wpAny_field hz rfl (x := rawInt T) rfl ?_)
    show wpAny _ _ (loadIfAlive ((T : Int).toNat) >>= _) _ _ _
    rw [Int.toNat_natCast]
    refine wpAny_bind ?_
    cases hT : s.heap.get? T with
    | none =>
      have q : wpAny (model prog w) A (pure true : Sem Bool) Q E s := wpAny_pure (h true s.heap f hz (Heap.SameBut.refl _ _))
      exact alive_at (o := none) hT q
    | some oT =>
      refine PySem.W.kdx_alive hT ?_
      simp only [Option.isNone_some, Bool.false_eq_true, if_false]
      refine wpAny_bind (wpAny_field hz rfl (x := .bool f) rfl ?_)
      cases f with
      | true =>
        rw [if_neg (show ¬ ((Value.bool true != Value.bool true) = true) from Bool.false_ne_true)]
        exact wpAny_pure (h false s.heap true hz (Heap.SameBut.refl _ _))
      | false =>
        rw [if_pos (show (Value.bool false != Value.bool true) = true from rfl)]
        exact wpAny_bind (wpAny_setField_rec hz (by simp) fun h2 z2 s2 => wpAny_pure (h false h2 true z2 s2))
section
variable {z TI TO i1 i2 : Addr} {f1 f2 : List Addr} {n1 n2 k : Nat} {P1 P2 : Nat → Value → Prop} {St1 St2 : Nat → Heap → Prop} {v a b : Value} {fl : Bool}
theorem zip_gen {Q : Value → Shared → Prop} (S : ZipSep2 z TI TO i1 i2 f1 f2) (D1 : Draws prog w A i1 f1 n1 P1 St1) (D2 : Draws prog w A i2 f2 n2 P2 St2) (hz : ZipIs s.heap z TI TO v fl) (hv : OutV v)
    (hI : IsPair s.heap TI (.ref i1) (.ref i2)) (hO : IsPair s.heap TO a b) (t1 : St1 k s.heap) (t2 : St2 k s.heap) (l1 : k < n1) (l2 : k < n2)
    (hQ : ∀ (x y : Value) (h2 : Heap) (tk : Tok) (v2 : Value) (fl2 : Bool) (a2 b2 : Value), P1 k x → P2 k y → ZipIs h2 z TI TO v2 fl2 → OutV v2 → IsPair h2 TO a2 b2 → St1 (k + 1) h2 → St2 (k + 1) h2 → IsPair h2 s.heap.objs.size x y → h2.objs.size = s.heap.objs.size + 1 →
      (∀ c o, c ≠ z → c ≠ TO → c ≠ i1 → c ≠ i2 → s.heap.get? c = some o → h2.get? c = some o) → Q (.ref s.heap.objs.size) { s with heap := h2, toks := tk }) :
    wpAny (model prog w) A (Builtin.«zip.__next__» ⟨[.ref z], []⟩) (fun fin s2 => ∃ u, fin = .done (.ret u) ∧ Q u s2) E s := by
  obtain ⟨hp, g, d, tk, os⟩ := s
  show wpAny _ _ (field (.ref z) 2 >>= _) _ _ _
  refine wpAny_bind (wpAny_field hz rfl (x := .bool false) rfl ?_)
  show wpAny _ _ (field (.ref z) 3 >>= _) _ _ _
  refine wpAny_bind (wpAny_field hz rfl (x := .ref TI) rfl (wpAny_bind (wpAny_seqItems hI rfl ?_)))
  show wpAny _ _ (Builtin.SmallTypes.ownedTupleIsFree (.ref z) >>= _) _ _ _
  refine wpAny_bind (zip_free hz hv fun fr h1 fl1 z1 s1 => ?_)
  replace s1 : Heap.SameBut z hp h1 := s1
  have I1 : IsPair h1 TI (.ref i1) (.ref i2) := s1.extBut _ _ S.TIz hI
  have O1 : IsPair h1 TO a b := s1.extBut _ _ S.TOz hO
  have p1 : St1 k h1 := D1.over t1 s1 S.zf1
  have q1 : St2 k h1 := D2.over t2 s1 S.zf2
  cases fr with
  | true =>
    simp only [if_true]
    refine wpAny_bind (wpAny_rule (wpAny_bind (wpAny_field z1 rfl (x := .ref TO) rfl ?_)))
    refine wpAny_bind (wpAny_setField_rec z1 (by simp) fun h2 z2 s2 => ?_)
    replace s2 : Heap.SameBut z h1 h2 := s2
    replace z2 : ZipIs h2 z TI TO .ellipsis fl1 := z2
    have O2 : IsPair h2 TO a b := s2.extBut _ _ S.TOz O1
    refine wpAny_bind ?_
    simp only [List.zipIdx_cons, List.zipIdx_nil, List.forIn_cons, List.forIn_nil]
    refine wpAny_bind (wpAny_bind (wpAny_onRaise ?_))
    show wpAny _ _ (Builtin.SmallTypes.nextOf (.ref i1) >>= _) _ _ _
    refine wpAny_bind (D1.item k ⟨h2, g, d, tk, os⟩ _ _ l1 (D1.over p1 s2 S.zf1) fun x h3 tk3 px p3 s3 => wpAny_pure ?_)
    replace s3 : Heap.SameBut i1 h2 h3 := s3
    have O3 : IsPair h3 TO a b := s3.extBut _ _ S.Ti1 O2
    refine wpAny_bind (wpAny_seqItems O3 rfl (wpAny_bind (wpAny_updateSeq_pair O3 fun h4 O4 s4 => wpAny_bind (wpAny_letGo (wpAny_pure ?_)))))
    replace s4 : Heap.SameBut TO h3 h4 := s4
    replace O4 : IsPair h4 TO x b := O4
    refine wpAny_bind (wpAny_bind (wpAny_onRaise ?_))
    show wpAny _ _ (Builtin.SmallTypes.nextOf (.ref i2) >>= _) _ _ _
    refine wpAny_bind (D2.item k ⟨h4, g, d, tk3, os⟩ _ _ l2 (D2.over (D2.over (D2.over q1 s2 S.zf2) s3 S.sep1_2) s4 S.Tf2) fun y h5 tk5 py q5 s5 => wpAny_pure ?_)
    replace s5 : Heap.SameBut i2 h4 h5 := s5
    have O5 : IsPair h5 TO x b := s5.extBut _ _ S.Ti2 O4
    refine wpAny_bind (wpAny_seqItems O5 rfl (wpAny_bind (wpAny_updateSeq_pair O5 fun h6 O6 s6 => wpAny_bind (wpAny_letGo (wpAny_pure (wpAny_pure ?_))))))
    replace s6 : Heap.SameBut TO h5 h6 := s6
    replace O6 : IsPair h6 TO x y := O6
    refine wpAny_bind (wpAny_seqItems O6 rfl (wpAny_bind (wpAny_newTuple ?_)))
    have z6 : ZipIs h6 z TI TO .ellipsis fl1 := s6.extBut _ _ S.TOz.symm (s5.extBut _ _ S.zi2 (s4.extBut _ _ S.TOz.symm (s3.extBut _ _ S.zi1 z2)))
    have n6 : h6.objs.size = hp.objs.size := by rw [s6.1, s5.1, s4.1, s3.1, s2.1, s1.1]
    have p6 : St1 (k + 1) h6 := D1.over (D1.over (D1.over p3 s4 S.Tf1) s5 S.sep2_1) s6 S.Tf1
    have q6 : St2 (k + 1) h6 := D2.over q5 s6 S.Tf2
    have k6 : ∀ c o, c ≠ z → c ≠ TO → c ≠ i1 → c ≠ i2 → hp.get? c = some o → h6.get? c = some o := fun c o c1 c2 c3 c4 y => s6.extBut _ _ c2 (s5.extBut _ _ c4 (s4.extBut _ _ c2 (s3.extBut _ _ c3 (s2.extBut _ _ c1 (s1.extBut _ _ c1 y)))))
    have lz : z < h6.objs.size := Heap.lt_size z6
    show wpAny _ _ (Builtin.SmallTypes.ownedTupleHandOut (.ref z) (.ref h6.objs.size) >>= _) _ _ _
    refine wpAny_bind ?_
    unfold Builtin.SmallTypes.ownedTupleHandOut
    have z7 : ZipIs (h6.push { cls := .type "tuple", data := .seq #[x, y] }) z TI TO .ellipsis fl1 := Heap.get?_push_of_some _ z6
    refine wpAny_bind (wpAny_setField_rec z7 (by simp) fun h8 z8 s8 => ?_)
    replace z8 : ZipIs h8 z TI TO (rawInt h6.objs.size) fl1 := z8
    refine wpAny_setField_rec z8 (by simp) fun h9 z9 s9 => ?_
    replace z9 : ZipIs h9 z TI TO (rawInt h6.objs.size) false := z9
    have up : ∀ c o, c ≠ z → h6.get? c = some o → h9.get? c = some o := fun c o c1 y => s9.extBut _ _ c1 (s8.extBut _ _ c1 (Heap.get?_push_of_some _ y))
    have T9 : IsPair h9 h6.objs.size x y := s9.extBut _ _ (Nat.ne_of_gt lz) (s8.extBut _ _ (Nat.ne_of_gt lz) (Heap.get?_push_size _ rfl))
    have n9 : h9.objs.size = h6.objs.size + 1 := by rw [s9.1, s8.1, Heap.size_push]
    rw [n6] at z9 T9 n9
    refine wpAny_pure ⟨_, rfl, ?_⟩
    show Q (.ref h6.objs.size) _
    rw [n6]
    exact hQ x y h9 tk5 _ _ _ _ px py z9 (.inr ⟨_, rfl⟩) (up _ _ S.TOz O6) (D1.frame _ _ _ p6 fun c hc o y => up c o (fun e => S.zf1 (e ▸ hc)) y) (D2.frame _ _ _ q6 fun c hc o y => up c o (fun e => S.zf2 (e ▸ hc)) y) T9 n9 fun c o c1 c2 c3 c4 y => up c o c1 (k6 c o c1 c2 c3 c4 y)
  | false =>
    simp only [Bool.false_eq_true, if_false]
    refine wpAny_bind ?_
    rw [← Array.forIn_toList]
    simp only [List.forIn_cons, List.forIn_nil]
    refine wpAny_bind (wpAny_bind (wpAny_holding ?_))
    show wpAny _ _ (Builtin.SmallTypes.nextOf (.ref i1) >>= _) _ _ _
    refine wpAny_bind (D1.item k ⟨h1, g, d, tk, os⟩ _ _ l1 p1 fun x h3 tk3 px p3 s3 => wpAny_pure ?_)
    replace s3 : Heap.SameBut i1 h1 h3 := s3
    refine wpAny_pure ?_
    refine wpAny_bind (wpAny_bind (wpAny_holding ?_))
    show wpAny _ _ (Builtin.SmallTypes.nextOf (.ref i2) >>= _) _ _ _
    refine wpAny_bind (D2.item k ⟨h3, g, d, tk3, os⟩ _ _ l2 (D2.over q1 s3 S.sep1_2) fun y h5 tk5 py q5 s5 => wpAny_pure ?_)
    replace s5 : Heap.SameBut i2 h3 h5 := s5
    refine wpAny_pure (wpAny_pure ?_)
    show wpAny _ _ (newTuple [x, y] >>= _) _ _ _
    refine wpAny_bind (wpAny_newTuple ?_)
    have n5 : h5.objs.size = hp.objs.size := by rw [s5.1, s3.1, s1.1]
    have z5 : ZipIs h5 z TI TO v fl1 := s5.extBut _ _ S.zi2 (s3.extBut _ _ S.zi1 z1)
    have O5 : IsPair h5 TO a b := s5.extBut _ _ S.Ti2 (s3.extBut _ _ S.Ti1 O1)
    have p5 : St1 (k + 1) h5 := D1.over p3 s5 S.sep2_1
    have k5 : ∀ c o, c ≠ z → c ≠ TO → c ≠ i1 → c ≠ i2 → hp.get? c = some o → h5.get? c = some o := fun c o c1 c2 c3 c4 y => s5.extBut _ _ c4 (s3.extBut _ _ c3 (s1.extBut _ _ c1 y))
    refine wpAny_pure ⟨_, rfl, ?_⟩
    show Q (.ref h5.objs.size) _
    have T6 : IsPair (h5.push { cls := .type "tuple", data := .seq #[x, y] }) h5.objs.size x y := Heap.get?_push_size _ rfl
    have n6 : (h5.push { cls := .type "tuple", data := .seq #[x, y] }).objs.size = h5.objs.size + 1 := Heap.size_push ..
    rw [n5] at T6 n6 ⊢
    exact hQ x y _ tk5 _ _ _ _ px py (Heap.get?_push_of_some _ z5) hv (Heap.get?_push_of_some _ O5) (D1.frame _ _ _ p5 fun c hc o y => Heap.get?_push_of_some _ y) (D2.frame _ _ _ q5 fun c hc o y => Heap.get?_push_of_some _ y) T6 n6 fun c o c1 c2 c3 c4 y => Heap.get?_push_of_some _ (k5 c o c1 c2 c3 c4 y)
theorem zip_stop {Q : Fin → Shared → Prop} (S : ZipSep2 z TI TO i1 i2 f1 f2) (D1 : Draws prog w A i1 f1 n1 P1 St1) (D2 : Draws prog w A i2 f2 n2 P2 St2) (hz : ZipIs s.heap z TI TO v fl) (hv : OutV v)
    (hI : IsPair s.heap TI (.ref i1) (.ref i2)) (hO : IsPair s.heap TO a b) (t1 : St1 k s.heap) (t2 : St2 k s.heap) (l1 : k ≤ n1) (l2 : k ≤ n2) (hl : k = n1 ∨ k = n2)
    (hE : ∀ (h2 : Heap) (e : Addr) (tk : Tok), (∀ c o, c ≠ z → c ≠ TO → c ≠ i1 → c ≠ i2 → s.heap.get? c = some o → h2.get? c = some o) → (∃ o, h2.get? e = some o ∧ o.cls = .type "StopIteration") → E (.ref e) { s with heap := h2, toks := tk }) :
    wpAny (model prog w) A (Builtin.«zip.__next__» ⟨[.ref z], []⟩) Q E s := by
  obtain ⟨hp, g, d, tk, os⟩ := s
  show wpAny _ _ (field (.ref z) 2 >>= _) _ _ _
  refine wpAny_bind (wpAny_field hz rfl (x := .bool false) rfl ?_)
  show wpAny _ _ (field (.ref z) 3 >>= _) _ _ _
  refine wpAny_bind (wpAny_field hz rfl (x := .ref TI) rfl (wpAny_bind (wpAny_seqItems hI rfl ?_)))
  show wpAny _ _ (Builtin.SmallTypes.ownedTupleIsFree (.ref z) >>= _) _ _ _
  refine wpAny_bind (zip_free hz hv fun fr h1 fl1 z1 s1 => ?_)
  replace s1 : Heap.SameBut z hp h1 := s1
  have O1 : IsPair h1 TO a b := s1.extBut _ _ S.TOz hO
  have p1 : St1 k h1 := D1.over t1 s1 S.zf1
  have q1 : St2 k h1 := D2.over t2 s1 S.zf2
  cases fr with
  | true =>
    simp only [if_true]
    refine wpAny_bind (wpAny_rule (wpAny_bind (wpAny_field z1 rfl (x := .ref TO) rfl ?_)))
    refine wpAny_bind (wpAny_setField_rec z1 (by simp) fun h2 z2 s2 => ?_)
    replace s2 : Heap.SameBut z h1 h2 := s2
    replace z2 : ZipIs h2 z TI TO .ellipsis fl1 := z2
    have O2 : IsPair h2 TO a b := s2.extBut _ _ S.TOz O1
    refine wpAny_bind ?_
    simp only [List.zipIdx_cons, List.zipIdx_nil, List.forIn_cons, List.forIn_nil]
    refine wpAny_bind (wpAny_bind (wpAny_onRaise ?_))
    show wpAny _ _ (Builtin.SmallTypes.nextOf (.ref i1) >>= _) _ _ _
    by_cases hk : k = n1
    · subst hk
      refine wpAny_bind (D1.done ⟨h2, g, d, tk, os⟩ _ _ (D1.over p1 s2 S.zf1) fun h3 e s3 he => ?_)
      have z3 : ZipIs h3 z TI TO .ellipsis fl1 := s3 _ _ S.zi1 z2
      refine wpAny_setField_rec z3 (by simp) fun h4 z4 s4 => ?_
      obtain ⟨o, ho, hc⟩ := he
      have hne : e ≠ z := by
        intro q
        subst q
        have ho : h3.get? e = some o := ho
        rw [z3] at ho
        cases ho
        injection hc with hc
        exact absurd hc (by decide)
      exact hE h4 e tk (fun c o c1 c2 c3 c4 y => s4.extBut _ _ c1 (s3 _ _ c3 (s2.extBut _ _ c1 (s1.extBut _ _ c1 y)))) ⟨o, s4.extBut _ _ hne ho, hc⟩
    · have hk2 : k = n2 := hl.resolve_left hk
      subst hk2
      refine wpAny_bind (D1.item k ⟨h2, g, d, tk, os⟩ _ _ (Nat.lt_of_le_of_ne l1 hk) (D1.over p1 s2 S.zf1) fun x h3 tk3 px p3 s3 => wpAny_pure ?_)
      replace s3 : Heap.SameBut i1 h2 h3 := s3
      have O3 : IsPair h3 TO a b := s3.extBut _ _ S.Ti1 O2
      refine wpAny_bind (wpAny_seqItems O3 rfl (wpAny_bind (wpAny_updateSeq_pair O3 fun h4 O4 s4 => wpAny_bind (wpAny_letGo (wpAny_pure ?_)))))
      replace s4 : Heap.SameBut TO h3 h4 := s4
      refine wpAny_bind (wpAny_bind (wpAny_onRaise ?_))
      show wpAny _ _ (Builtin.SmallTypes.nextOf (.ref i2) >>= _) _ _ _
      refine wpAny_bind (D2.done ⟨h4, g, d, tk3, os⟩ _ _ (D2.over (D2.over (D2.over q1 s2 S.zf2) s3 S.sep1_2) s4 S.Tf2) fun h5 e s5 he => ?_)
      have z4 : ZipIs h4 z TI TO .ellipsis fl1 := s4.extBut _ _ S.TOz.symm (s3.extBut _ _ S.zi1 z2)
      have z5 : ZipIs h5 z TI TO .ellipsis fl1 := s5 _ _ S.zi2 z4
      refine wpAny_setField_rec z5 (by simp) fun h6 z6 s6 => ?_
      obtain ⟨o, ho, hc⟩ := he
      have hne : e ≠ z := by
        intro q
        subst q
        have ho : h5.get? e = some o := ho
        rw [z5] at ho
        cases ho
        injection hc with hc
        exact absurd hc (by decide)
      exact hE h6 e tk3 (fun c o c1 c2 c3 c4 y => s6.extBut _ _ c1 (s5 _ _ c4 (s4.extBut _ _ c2 (s3.extBut _ _ c3 (s2.extBut _ _ c1 (s1.extBut _ _ c1 y)))))) ⟨o, s6.extBut _ _ hne ho, hc⟩
  | false =>
    simp only [Bool.false_eq_true, if_false]
    refine wpAny_bind ?_
    rw [← Array.forIn_toList]
    simp only [List.forIn_cons, List.forIn_nil]
    refine wpAny_bind (wpAny_bind (wpAny_holding ?_))
    show wpAny _ _ (Builtin.SmallTypes.nextOf (.ref i1) >>= _) _ _ _
    by_cases hk : k = n1
    · subst hk
      refine wpAny_bind (D1.done ⟨h1, g, d, tk, os⟩ _ _ p1 fun h3 e s3 he => ?_)
      exact hE h3 e tk (fun c o c1 c2 c3 c4 y => s3 _ _ c3 (s1.extBut _ _ c1 y)) he
    · have hk2 : k = n2 := hl.resolve_left hk
      subst hk2
      refine wpAny_bind (D1.item k ⟨h1, g, d, tk, os⟩ _ _ (Nat.lt_of_le_of_ne l1 hk) p1 fun x h3 tk3 px p3 s3 => wpAny_pure ?_)
      replace s3 : Heap.SameBut i1 h1 h3 := s3
      refine wpAny_pure ?_
      refine wpAny_bind (wpAny_bind (wpAny_holding ?_))
      show wpAny _ _ (Builtin.SmallTypes.nextOf (.ref i2) >>= _) _ _ _
      refine wpAny_bind (D2.done ⟨h3, g, d, tk3, os⟩ _ _ (D2.over q1 s3 S.sep1_2) fun h5 e s5 he => ?_)
      exact hE h5 e tk3 (fun c o c1 c2 c3 c4 y => s5 _ _ c4 (s3.extBut _ _ c3 (s1.extBut _ _ c1 y))) he
end
end
end Lw

set_option Elab.async false
set_option linter.all false
set_option maxRecDepth 100000
set_option maxHeartbeats 1000000
/-! Lw12: what is walked: lists, tuples, texts, by enumerate, by zip, by both. -/
namespace Lw
open PySem PySem.Spec PyProof.Rows L2

/-- a list, a tuple, a text -/
inductive SK where
  | l (a : Addr) | t (a : Addr) | s (x : Str)
def SK.val : SK → V
  | .l a => .ref a
  | .t a => .ref a
  | .s x => .str x
/-- its items -/
def SK.at (K : PySem.W.Frag) (H : Hp) : SK → List V → Prop
  | .l a, xs => SqL K H a xs
  | .t a, xs => SqT K H a xs
  | .s x, xs => xs = x.cps.toList.map fun c => V.str ⟨#[c]⟩
/-- its iterator at turn i -/
def SK.tn : SK → Addr → Tok → Nat → Heap → Prop
  | .l a, it, _, i, h => h.IsListIter it a i
  | .t a, it, _, i, h => h.IsTupleIter it a i
  | .s x, it, tk, i, h => h.IsStrIter it (strIterType x) x tk i
def SK.ob : SK → Tok → Obj
  | .l a, _ => { cls := .type "list_iterator", data := .fields #[.ref a, .int 0 0] }
  | .t a, _ => { cls := .type "tuple_iterator", data := .fields #[.ref a, .int 0 0] }
  | .s x, tk => { cls := .type (strIterType x), data := .fields #[.str x tk, .int 0 0] }
theorem SK.tn_get {k : SK} {it : Addr} {t : Tok} {i : Nat} {h : Heap} (q : k.tn it t i h) : ∃ o, h.get? it = some o ∧ ∀ v, o.data ≠ .cell v := by
  cases k with
  | l a =>
    obtain ⟨o, ho, hc, hd⟩ := q
    exact ⟨o, ho, fun v e => by rw [hd] at e; cases e⟩
  | t a =>
    obtain ⟨o, ho, hc, hd⟩ := q
    exact ⟨o, ho, fun v e => by rw [hd] at e; cases e⟩
  | s x =>
    obtain ⟨o, ho, hc, hd⟩ := q
    exact ⟨o, ho, fun v e => by rw [hd] at e; cases e⟩
theorem SK.tn_at {k : SK} {it : Addr} {t : Tok} {i : Nat} {h h2 : Heap} (q : k.tn it t i h) (e : ∀ o, h.get? it = some o → h2.get? it = some o) : k.tn it t i h2 := by
  cases k with
  | l a => exact Heap.IsListIter.at q e
  | t a => exact Heap.IsTupleIter.at q e
  | s x =>
    obtain ⟨o, ho, r⟩ := q
    exact ⟨o, e o ho, r⟩
section
variable {X : Cx} {pins : List (Addr × Obj)} {σ : L2.St} {H : Hp} {s : Shared} {k : SK} {xs ys : List V} {it : Addr} {t : Tok} {i : Nat}
theorem SK.inj (I : Inv X pins σ H s) (h : k.at X.K H xs) (h2 : k.at X.K H ys) : xs = ys := by
  cases k with
  | l a => exact I.list_inj h h2
  | t a => exact I.tuple_inj h h2
  | s x =>
    have e1 : xs = _ := h
    have e2 : ys = _ := h2
    rw [e1, e2]
theorem frag_old (I : Inv X pins σ H s) {a b : Addr} {o : Obj} (h : X.K.lookup a = some o) (hf : FpOk X pins H b) : a ≠ b := by
  have hb := I.ok.mod.kin a o h
  obtain ⟨_, _, _, h4, _⟩ := hf
  intro e
  subst e
  rcases h4 with h4 | h4
  · exact I.ok.noex a o hb h4
  · have l1 : a < X.base.objs.size := Heap.lt_size hb
    have l2 := I.ok.bsz
    exact absurd (Nat.lt_of_lt_of_le l1 (Nat.le_trans l2 h4)) (Nat.lt_irrefl _)
theorem SK.ne (I : Inv X pins σ H s) (h : k.at X.K H xs) {b : Addr} (hf : FpOk X pins H b) : ∀ a, k.val = .ref a → a ≠ b := by
  intro a e
  cases k with
  | l c =>
    cases e
    rcases h with (h | ⟨o, h⟩) | ⟨o, its, m, h, _⟩
    · exact ne_of_none h hf.1
    · exact ne_of_none h hf.1
    · exact frag_old I h hf
  | t c =>
    cases e
    rcases h with (h | ⟨o, h⟩) | ⟨o, its, m, h, _⟩
    · exact ne_of_none h hf.1
    · exact ne_of_none h hf.1
    · exact frag_old I h hf
  | s x => cases e
theorem SK.draws (I : Inv X pins σ H s) (h : k.at X.K H xs) (hf : FpOk X pins H it) {prog : Program} {w : World} {A : Around} (hh : A.handled = none) (t : Tok) :
    ∃ fp P St, Draws prog w A it fp xs.length P St ∧ (∀ i, k.tn it t i s.heap → St i s.heap) ∧ (∀ i h, St i h → k.tn it t i h) ∧ (∀ i u, P i u → ∃ x, xs[i]? = some x ∧ RelV x u) ∧ (∀ b ∈ fp, b = it ∨ k.val = .ref b) ∧ it ∈ fp := by
  have hne := SK.ne I h hf
  cases k with
  | l a =>
    obtain ⟨its, rv, p, hz⟩ := I.list h
    have e : its.toArray.size = xs.length := by rw [List.size_toArray, rv.length]
    have D := Draws.list (prog := prog) (w := w) (A := A) hh it a (hne a rfl) its.toArray
    rw [e] at D
    refine ⟨_, _, _, D, fun i q => ⟨q, p.isList⟩, fun i h q => q.1, fun i u q => ?_, fun b hb => ?_, by simp⟩
    · have hl : i < xs.length := by
        by_cases hl : i < xs.length
        · exact hl
        · have q : its.toArray[i]? = some u := q
          rw [Array.getElem?_eq_none (by omega)] at q
          cases q
      obtain ⟨v, hv⟩ : ∃ v, xs[i]? = some v := ⟨_, List.getElem?_eq_getElem hl⟩
      obtain ⟨u2, h1, h2⟩ := rv.get hv
      have q : its.toArray[i]? = some u := q
      have e3 : its.toArray[i]? = its[i]? := by simp
      rw [e3, h1] at q
      cases q
      exact ⟨v, hv, h2⟩
    · have hb2 : b = it ∨ b = a := by simpa using hb
      rcases hb2 with hb2 | hb2
      · exact .inl hb2
      · exact .inr (by rw [hb2]; rfl)
  | t a =>
    obtain ⟨its, rv, p, hz⟩ := I.tuple h
    have e : its.toArray.size = xs.length := by rw [List.size_toArray, rv.length]
    have D := Draws.tuple (prog := prog) (w := w) (A := A) hh it a (hne a rfl) its.toArray
    rw [e] at D
    refine ⟨_, _, _, D, fun i q => ⟨q, p⟩, fun i h q => q.1, fun i u q => ?_, fun b hb => ?_, by simp⟩
    · have hl : i < xs.length := by
        by_cases hl : i < xs.length
        · exact hl
        · have q : its.toArray[i]? = some u := q
          rw [Array.getElem?_eq_none (by omega)] at q
          cases q
      obtain ⟨v, hv⟩ : ∃ v, xs[i]? = some v := ⟨_, List.getElem?_eq_getElem hl⟩
      obtain ⟨u2, h1, h2⟩ := rv.get hv
      have q : its.toArray[i]? = some u := q
      have e3 : its.toArray[i]? = its[i]? := by simp
      rw [e3, h1] at q
      cases q
      exact ⟨v, hv, h2⟩
    · have hb2 : b = it ∨ b = a := by simpa using hb
      rcases hb2 with hb2 | hb2
      · exact .inl hb2
      · exact .inr (by rw [hb2]; rfl)
  | s x =>
    have ex : xs = x.cps.toList.map fun c => V.str ⟨#[c]⟩ := h
    have e : x.cps.size = xs.length := by rw [ex, List.length_map, Array.length_toList]
    have D := Draws.text (prog := prog) (w := w) (A := A) hh it x t
    rw [e] at D
    refine ⟨_, _, _, D, fun i q => q, fun i h q => q, fun i u q => ?_, fun b hb => ?_, by simp⟩
    · obtain ⟨c, tt, hc, eu⟩ := q
      subst eu
      refine ⟨.str ⟨#[c]⟩, ?_, ⟨tt, rfl⟩⟩
      rw [ex, List.getElem?_map, Array.getElem?_toList, hc]
      rfl
    · exact .inl (by simpa using hb)
end
/-! ### enumerate -/
def IteK (K : PySem.W.Frag) (k : SK) : It :=
  ⟨fun i H => ∃ xs x, k.at K H xs ∧ xs[i]? = some x, fun i H v H2 => ∃ T x, v = .ref T ∧ H T = none ∧ H2 = upd H T (.tup [.int (i : Nat), x]) ∧ ∀ xs, k.at K H xs → xs[i]? = some x, fun i H => ∃ xs, k.at K H xs ∧ xs.length = i⟩
theorem turn_enumK {P : Program} {w : World} {K : PySem.W.Frag} {elts : List Expr} {kk : Nat} {tpos : Pos} (k : SK) (e it : Addr) (t : Tok) :
    Turn P w K (.Tuple elts kk tpos) (IteK K k) [e, it] e (fun i h => (∃ old, IsEnum h e it ((i : Nat) : Int) old) ∧ k.tn it t i h ∧ e ≠ it) where
  mem := by simp
  obj := fun i h st b hb => by
    obtain ⟨⟨old, he⟩, ht, _⟩ := st
    have hb2 : b = e ∨ b = it := by simpa using hb
    rcases hb2 with q | q
    · rw [q]
      exact ⟨_, he, fun v z => nomatch z⟩
    · rw [q]
      exact SK.tn_get ht
  keep := fun i h h2 st k2 => by
    obtain ⟨⟨old, he⟩, ht, hne⟩ := st
    exact ⟨⟨old, k2 e (by simp) _ he⟩, SK.tn_at ht fun o q => k2 it (by simp) o q, hne⟩
  item := by
    intro X hP hw hK hc i pins s σ H E I hf st hg
    subst hP hw hK
    obtain ⟨⟨old, he⟩, ht, hne⟩ := st
    obtain ⟨xs, x, hq, hx⟩ := hg
    have hh : X.A.in1.handled = none := I.ok.hd hc
    obtain ⟨fp, P, St, D, to, back, hP, hfp, hmem⟩ := SK.draws I hq (hf it (by simp)) (prog := X.prog) (w := X.w) hh t
    have hi : i < xs.length := by
      rcases Nat.lt_or_ge i xs.length with q | q
      · exact q
      · rw [List.getElem?_eq_none q] at hx
        cases hx
    have hel : e < s.heap.objs.size := Heap.lt_size he
    have hil : it < s.heap.objs.size := by obtain ⟨o, q, _⟩ := SK.tn_get ht; exact Heap.lt_size q
    refine enum_next he (D.item i s _ _ hi (to i ht) fun u h1 tk hu st1 s1 => ⟨(s1.2 e hne).trans he, fun h2 t2 ho hT hsz hk => ?_⟩)
    have n1 : h1.objs.size = s.heap.objs.size := s1.1
    obtain ⟨x2, hx2, ru⟩ := hP i u hu
    rw [hx] at hx2
    cases hx2
    replace ho : IsEnumOut h2 e it ((i : Int) + 1) u h1.objs.size := ho
    replace hT : h2.get? h1.objs.size = some (pairObj i t2 u) := hT
    replace hsz : h2.objs.size = h1.objs.size + 1 := hsz
    replace hk : ∀ b o, b ≠ e → h1.get? b = some o → h2.get? b = some o := hk
    refine ⟨_, rfl, wpAny_letOwnedTupleGo_enum (s := { s with heap := h2, toks := t2 + 1 }) ho fun h3 he3 sb => ?_⟩
    rw [n1] at hT hsz
    have hT2 : h3.get? s.heap.objs.size = some (pairObj i t2 u) := (sb.2 _ (Nat.ne_of_gt hel)).trans hT
    have new : ObjOk X.prog X.w (upd H s.heap.objs.size (.tup [.int (i : Nat), x])) h3 s.heap.objs.size (.tup [.int (i : Nat), x]) :=
      ⟨by show 2 ≤ sizeLine; decide, [.int i t2, u], .cons ⟨_, rfl⟩ (.cons ru .nil), ⟨_, hT2, rfl, _, rfl⟩⟩
    have I1 : Inv X pins σ (upd H s.heap.objs.size (.tup [.int (i : Nat), x])) { s with heap := h3, toks := t2 + 1 } :=
      I.turnedNew (ch := [e, it]) (fun b o hb q => (sb.2 b fun z => hb (by simp [z])).trans (hk b o (fun z => hb (by simp [z])) (s1.extBut b o (fun z => hb (by simp [z])) q))) hf (Nat.le_refl _) new
    refine ⟨.ref s.heap.objs.size, _, I1, by show Value.ref h1.objs.size = _; rw [n1], ⟨_, x, rfl, I.hok.fresh (Nat.le_refl _), rfl, fun zs hz => by rw [SK.inj I hz hq]; exact hx⟩, ⟨⟨u, ?_⟩, ?_, hne⟩, fun b hb => ?_⟩
    · have e1 : ((i + 1 : Nat) : Int) = (i : Int) + 1 := by omega
      rw [e1]
      exact he3
    · exact SK.tn_at (back (i + 1) h1 st1) fun o q => (sb.2 it (Ne.symm hne)).trans (hk it o (Ne.symm hne) q)
    · have hb2 : b < s.heap.objs.size := by
        have hb3 : b = e ∨ b = it := by simpa using hb
        rcases hb3 with q | q
        · rw [q]
          exact hel
        · rw [q]
          exact hil
      rw [upd_ne (Nat.ne_of_lt hb2)]
      exact (hf b hb).1
  done := by
    intro X hP hw hK hc i pins s σ H E I hf st hg
    subst hP hw hK
    obtain ⟨⟨old, he⟩, ht, hne⟩ := st
    obtain ⟨xs, hq, hx⟩ := hg
    have hh : X.A.in1.handled = none := I.ok.hd hc
    obtain ⟨fp, P, St, D, to, back, hP, hfp, hmem⟩ := SK.draws I hq (hf it (by simp)) (prog := X.prog) (w := X.w) hh t
    subst hx
    refine enum_end he (D.done s _ _ (to _ ht) fun h1 x1 s1 hs => ⟨?_, rfl, ?_⟩)
    · obtain ⟨o, ho, hcl⟩ := hs
      exact ⟨x1, o, rfl, ho, hcl⟩
    · exact I.turnedL (t' := s.toks) (ch := [e, it]) (fun b o hb q => s1 b o (fun z => hb (by simp [z])) q) hf
  self := fun A i s Q E st h => let ⟨⟨_, he⟩, _⟩ := st; wpAny_pyIter_enum he h

/-! ### zip -/
def ItzK (K : PySem.W.Frag) (k1 k2 : SK) : It :=
  ⟨fun i H => ∃ xs ys x y, k1.at K H xs ∧ k2.at K H ys ∧ xs[i]? = some x ∧ ys[i]? = some y,
    fun i H v H2 => ∃ T x y, v = .ref T ∧ H T = none ∧ H2 = upd H T (.tup [x, y]) ∧ (∀ xs, k1.at K H xs → xs[i]? = some x) ∧ ∀ ys, k2.at K H ys → ys[i]? = some y,
    fun i H => ∃ xs ys, k1.at K H xs ∧ k2.at K H ys ∧ i ≤ xs.length ∧ i ≤ ys.length ∧ (i = xs.length ∨ i = ys.length)⟩
/-- the cells of a zip -/
structure ZCell (z TI TO i1 i2 : Addr) : Prop where
  zTI : TI ≠ z
  zTO : TO ≠ z
  z1 : i1 ≠ z
  z2 : i2 ≠ z
  TT : TI ≠ TO
  TI1 : TI ≠ i1
  TI2 : TI ≠ i2
  TO1 : TO ≠ i1
  TO2 : TO ≠ i2
  ii : i1 ≠ i2
def zipTn (k1 k2 : SK) (z TI TO i1 i2 : Addr) (t1 t2 : Tok) (i : Nat) (h : Heap) : Prop :=
  (∃ v f, ZipIs h z TI TO v f ∧ OutV v) ∧ IsPair h TI (.ref i1) (.ref i2) ∧ (∃ a b, IsPair h TO a b) ∧ k1.tn i1 t1 i h ∧ k2.tn i2 t2 i h
section
variable {prog : Program} {w : World} {A : Around} {E : Value → Shared → Prop} {s : Shared}
theorem zip_go {tg : Expr} {z TI TO T : Addr} {v : Value} {f : Bool} {Q : Unit → Shared → Prop} (hz : ZipIs s.heap z TI TO v f) (hv : OutV v)
    (h : ∀ h2 v2, ZipIs h2 z TI TO v2 f → OutV v2 → Heap.SameBut z s.heap h2 → Q () { s with heap := h2 }) : wpAny (model prog w) A (letOwnedTupleGo tg (.ref z) (.ref T)) Q E s := by
  have body : wpAny (model prog w) A (do
      let o ← load z
      match o.cls, o.data with
      | .type n, .fields vs =>
        if ["enumerate", "zip", "dict_itemiterator", "dict_reverseitemiterator", "odict_iterator", "itertools.zip_longest", "itertools.pairwise"].contains n && vs[0]? == some (rawInt T) then
          rule "for.unpacks-the-owned-tuple"
          updateField z 0 .none
      | _, _ => pure ()) Q E s := by
    refine wpAny_bind (wpAny_load hz ?_)
    show wpAny _ _ (if (["enumerate", "zip", "dict_itemiterator", "dict_reverseitemiterator", "odict_iterator", "itertools.zip_longest", "itertools.pairwise"].contains "zip" && (#[v, .bool f, .bool false, .ref TI, .ref TO] : Array Value)[0]? == some (rawInt T)) = true then _ else _) Q E s
    split
    · refine wpAny_bind (wpAny_rule ?_)
      show wpAny _ _ (setField (.ref z) 0 .none) Q E s
      exact wpAny_setField_rec hz (by simp) fun h2 z2 s2 => h h2 .none z2 (.inl rfl) s2
    · exact wpAny_pure (h s.heap v hz hv (Heap.SameBut.refl _ _))
  have same : wpAny (model prog w) A (pure () : Sem Unit) Q E s := wpAny_pure (h s.heap v hz hv (Heap.SameBut.refl _ _))
  cases tg <;> first | exact body | exact same
end
theorem zip_sep {X : Cx} {pins : List (Addr × Obj)} {σ : L2.St} {H : Hp} {s : Shared} {k1 k2 : SK} {xs ys : List V} {z TI TO i1 i2 : Addr} {f1 f2 : List Addr} (I : Inv X pins σ H s) (C : ZCell z TI TO i1 i2) (hf : ∀ b ∈ [z, TI, TO, i1, i2], FpOk X pins H b)
    (q1 : k1.at X.K H xs) (q2 : k2.at X.K H ys) (m1 : i1 ∈ f1) (m2 : i2 ∈ f2) (g1 : ∀ b ∈ f1, b = i1 ∨ k1.val = .ref b) (g2 : ∀ b ∈ f2, b = i2 ∨ k2.val = .ref b) : ZipSep2 z TI TO i1 i2 f1 f2 where
  TIz := C.zTI
  TOz := C.zTO
  TITO := C.TT
  TIi1 := C.TI1
  TIi2 := C.TI2
  mem1 := m1
  mem2 := m2
  zf1 := fun q => (g1 z q).elim (fun e => C.z1 e.symm) fun e => SK.ne I q1 (hf z (by simp)) z e rfl
  zf2 := fun q => (g2 z q).elim (fun e => C.z2 e.symm) fun e => SK.ne I q2 (hf z (by simp)) z e rfl
  Tf1 := fun q => (g1 TO q).elim (fun e => C.TO1 e) fun e => SK.ne I q1 (hf TO (by simp)) TO e rfl
  Tf2 := fun q => (g2 TO q).elim (fun e => C.TO2 e) fun e => SK.ne I q2 (hf TO (by simp)) TO e rfl
  sep1_2 := fun q => (g2 i1 q).elim (fun e => C.ii e) fun e => SK.ne I q2 (hf i1 (by simp)) i1 e rfl
  sep2_1 := fun q => (g1 i2 q).elim (fun e => C.ii e.symm) fun e => SK.ne I q1 (hf i2 (by simp)) i2 e rfl
theorem five {z TI TO i1 i2 c : Addr} (h : c ∈ [z, TI, TO, i1, i2]) : c = z ∨ c = TI ∨ c = TO ∨ c = i1 ∨ c = i2 := by simpa using h
theorem not_five {z TI TO i1 i2 c : Addr} (h : c ∉ [z, TI, TO, i1, i2]) : c ≠ z ∧ c ≠ TI ∧ c ≠ TO ∧ c ≠ i1 ∧ c ≠ i2 := by simpa using h
/-- one turn of a zip, by its code -/
theorem zip_turn {X : Cx} {pins : List (Addr × Obj)} {σ : L2.St} {H : Hp} {s : Shared} {k1 k2 : SK} {z TI TO i1 i2 : Addr} {t1 t2 : Tok} {i : Nat} {xs ys : List V} {x y : V} {A : Around} {E : Value → Shared → Prop} {Q : Value → Shared → Prop} (hh : A.handled = none) (C : ZCell z TI TO i1 i2)
    (I : Inv X pins σ H s) (hf : ∀ b ∈ [z, TI, TO, i1, i2], FpOk X pins H b) (st : zipTn k1 k2 z TI TO i1 i2 t1 t2 i s.heap) (q1 : k1.at X.K H xs) (q2 : k2.at X.K H ys) (hx : xs[i]? = some x) (hy : ys[i]? = some y)
    (h : ∀ h2 tk, Inv X pins σ (upd H s.heap.objs.size (.tup [x, y])) { s with heap := h2, toks := tk } → zipTn k1 k2 z TI TO i1 i2 t1 t2 (i + 1) h2 → h2.objs.size = s.heap.objs.size + 1 →
      (∀ c o, c ∉ [z, TI, TO, i1, i2] → s.heap.get? c = some o → h2.get? c = some o) → Q (.ref s.heap.objs.size) { s with heap := h2, toks := tk }) :
    wpAny (model X.prog X.w) A (Builtin.«zip.__next__» ⟨[.ref z], []⟩) (fun fin s2 => ∃ u, fin = .done (.ret u) ∧ Q u s2) E s := by
  obtain ⟨⟨v, f, hz, hv⟩, hI, ⟨a, b, hO⟩, n1, n2⟩ := st
  obtain ⟨f1, P1, St1, D1, to1, back1, hP1, hfp1, hm1⟩ := SK.draws I q1 (hf i1 (by simp)) (prog := X.prog) (w := X.w) hh t1
  obtain ⟨f2, P2, St2, D2, to2, back2, hP2, hfp2, hm2⟩ := SK.draws I q2 (hf i2 (by simp)) (prog := X.prog) (w := X.w) hh t2
  have S := zip_sep I C hf q1 q2 hm1 hm2 hfp1 hfp2
  have l1 : i < xs.length := by
    rcases Nat.lt_or_ge i xs.length with q | q
    · exact q
    · rw [List.getElem?_eq_none q] at hx
      cases hx
  have l2 : i < ys.length := by
    rcases Nat.lt_or_ge i ys.length with q | q
    · exact q
    · rw [List.getElem?_eq_none q] at hy
      cases hy
  refine zip_gen S D1 D2 hz hv hI hO (to1 i n1) (to2 i n2) l1 l2 fun ux uy h2 tk v2 fl2 a2 b2 px py z2 hv2 O2 p2 r2 hT hsz hk => ?_
  obtain ⟨x', hx', rx⟩ := hP1 i ux px
  obtain ⟨y', hy', ry⟩ := hP2 i uy py
  rw [hx] at hx'
  rw [hy] at hy'
  cases hx'
  cases hy'
  have new : ObjOk X.prog X.w (upd H s.heap.objs.size (.tup [x, y])) h2 s.heap.objs.size (.tup [x, y]) := ⟨by show 2 ≤ sizeLine; decide, [ux, uy], .cons rx (.cons ry .nil), ⟨_, hT, rfl, _, rfl⟩⟩
  have kk : ∀ c o, c ∉ [z, TI, TO, i1, i2] → s.heap.get? c = some o → h2.get? c = some o := fun c o hc q => by
    obtain ⟨c1, c2, c3, c4, c5⟩ := not_five hc
    exact hk c o c1 c3 c4 c5 q
  have I1 : Inv X pins σ (upd H s.heap.objs.size (.tup [x, y])) { s with heap := h2, toks := tk } := I.turnedNew (ch := [z, TI, TO, i1, i2]) kk hf (Nat.le_refl _) new
  exact h h2 tk I1 ⟨⟨v2, fl2, z2, hv2⟩, hk _ _ C.zTI C.TT C.TI1 C.TI2 hI, ⟨a2, b2, O2⟩, back1 _ _ p2, back2 _ _ r2⟩ hsz kk
theorem zip_halt {X : Cx} {pins : List (Addr × Obj)} {σ : L2.St} {H : Hp} {s : Shared} {k1 k2 : SK} {z TI TO i1 i2 : Addr} {t1 t2 : Tok} {i : Nat} {xs ys : List V} {A : Around} {E : Value → Shared → Prop} {Q : Fin → Shared → Prop} (hh : A.handled = none) (C : ZCell z TI TO i1 i2)
    (I : Inv X pins σ H s) (hf : ∀ b ∈ [z, TI, TO, i1, i2], FpOk X pins H b) (st : zipTn k1 k2 z TI TO i1 i2 t1 t2 i s.heap) (q1 : k1.at X.K H xs) (q2 : k2.at X.K H ys) (l1 : i ≤ xs.length) (l2 : i ≤ ys.length) (hl : i = xs.length ∨ i = ys.length)
    (h : ∀ h2 e tk, Inv X pins σ H { s with heap := h2, toks := tk } → (∃ o, h2.get? e = some o ∧ o.cls = .type "StopIteration") → E (.ref e) { s with heap := h2, toks := tk }) :
    wpAny (model X.prog X.w) A (Builtin.«zip.__next__» ⟨[.ref z], []⟩) Q E s := by
  obtain ⟨⟨v, f, hz, hv⟩, hI, ⟨a, b, hO⟩, n1, n2⟩ := st
  obtain ⟨f1, P1, St1, D1, to1, back1, hP1, hfp1, hm1⟩ := SK.draws I q1 (hf i1 (by simp)) (prog := X.prog) (w := X.w) hh t1
  obtain ⟨f2, P2, St2, D2, to2, back2, hP2, hfp2, hm2⟩ := SK.draws I q2 (hf i2 (by simp)) (prog := X.prog) (w := X.w) hh t2
  have S := zip_sep I C hf q1 q2 hm1 hm2 hfp1 hfp2
  refine zip_stop S D1 D2 hz hv hI hO (to1 i n1) (to2 i n2) l1 l2 hl fun h2 e tk hk he => ?_
  refine h h2 e tk (I.turnedL (ch := [z, TI, TO, i1, i2]) (fun c o hc q => ?_) hf) he
  obtain ⟨c1, c2, c3, c4, c5⟩ := not_five hc
  exact hk c o c1 c3 c4 c5 q
theorem zip_type {h : Heap} {s : Shared} {z TI TO : Addr} {v : Value} {f : Bool} (hz : ZipIs s.heap z TI TO v f) : s.TypeIs (.ref z) "zip" := ⟨_, hz, rfl⟩
theorem zip_lt {k1 k2 : SK} {z TI TO i1 i2 c : Addr} {t1 t2 : Tok} {i : Nat} {h : Heap} (st : zipTn k1 k2 z TI TO i1 i2 t1 t2 i h) (hc : c ∈ [z, TI, TO, i1, i2]) : c < h.objs.size := by
  obtain ⟨⟨v, f, hz, hv⟩, hI, ⟨a, b, hO⟩, n1, n2⟩ := st
  rcases five hc with q | q | q | q | q
  · rw [q]; exact Heap.lt_size hz
  · rw [q]; exact Heap.lt_size hI
  · rw [q]; exact Heap.lt_size hO
  · rw [q]; obtain ⟨o, e, _⟩ := SK.tn_get n1; exact Heap.lt_size e
  · rw [q]; obtain ⟨o, e, _⟩ := SK.tn_get n2; exact Heap.lt_size e
theorem zip_obj {k1 k2 : SK} {z TI TO i1 i2 c : Addr} {t1 t2 : Tok} {i : Nat} {h : Heap} (st : zipTn k1 k2 z TI TO i1 i2 t1 t2 i h) (hc : c ∈ [z, TI, TO, i1, i2]) : ∃ o, h.get? c = some o ∧ ∀ v, o.data ≠ .cell v := by
  obtain ⟨⟨v, f, hz, hv⟩, hI, ⟨a, b, hO⟩, n1, n2⟩ := st
  rcases five hc with q | q | q | q | q
  · rw [q]; exact ⟨_, hz, fun v z => nomatch z⟩
  · rw [q]; exact ⟨_, hI, fun v z => nomatch z⟩
  · rw [q]; exact ⟨_, hO, fun v z => nomatch z⟩
  · rw [q]; exact SK.tn_get n1
  · rw [q]; exact SK.tn_get n2
theorem zip_keep {k1 k2 : SK} {z TI TO i1 i2 : Addr} {t1 t2 : Tok} {i : Nat} {h h2 : Heap} (st : zipTn k1 k2 z TI TO i1 i2 t1 t2 i h) (k : ∀ b ∈ [z, TI, TO, i1, i2], ∀ o, h.get? b = some o → h2.get? b = some o) : zipTn k1 k2 z TI TO i1 i2 t1 t2 i h2 := by
  obtain ⟨⟨v, f, hz, hv⟩, hI, ⟨a, b, hO⟩, n1, n2⟩ := st
  exact ⟨⟨v, f, k z (by simp) _ hz, hv⟩, k TI (by simp) _ hI, ⟨a, b, k TO (by simp) _ hO⟩, SK.tn_at n1 fun o q => k i1 (by simp) o q, SK.tn_at n2 fun o q => k i2 (by simp) o q⟩
theorem turn_zipK {P : Program} {w : World} {K : PySem.W.Frag} {tg : Expr} (k1 k2 : SK) {z TI TO i1 i2 : Addr} (t1 t2 : Tok) (C : ZCell z TI TO i1 i2) :
    Turn P w K tg (ItzK K k1 k2) [z, TI, TO, i1, i2] z (zipTn k1 k2 z TI TO i1 i2 t1 t2) where
  mem := by simp
  obj := fun i h st b hb => zip_obj st hb
  keep := fun i h h2 st k => zip_keep st k
  item := by
    intro X hP hw hK hc i pins s σ H E I hf st hg
    subst hP hw hK
    obtain ⟨xs, ys, x, y, q1, q2, hx, hy⟩ := hg
    have hh : X.A.in1.handled = none := I.ok.hd hc
    obtain ⟨⟨v, f, hz, hv⟩, _⟩ := id st
    have hT := zip_type (h := s.heap) hz
    have lz : z < s.heap.objs.size := Heap.lt_size hz
    unfold pyNext
    refine wpAny_bind (wpAny_attempt (wpAny_callSpecial?_slot (name := Str.ofString "__next__") hT F.slot_zip_next (wpAny_call_entry F.slot_zip_next hT F.entry_zip_next ?_ (F.args_zip_next_1 _))))
    refine zip_turn hh C I hf st q1 q2 hx hy fun h2 tk I1 st2 hsz hk => wpAny_pure ⟨_, rfl, ?_⟩
    obtain ⟨⟨v2, f2, z2, hv2⟩, hI2, ⟨a2, b2, hO2⟩, m1, m2⟩ := id st2
    refine zip_go (s := { s with heap := h2, toks := tk }) z2 hv2 fun h3 v3 z3 hv3 s3 => ?_
    have I3 : Inv X pins σ (upd H s.heap.objs.size (.tup [x, y])) { s with heap := h3, toks := tk } := by
      refine Inv.turnedL (s := { s with heap := h2, toks := tk }) (t' := tk) I1 (ch := [z]) (fun b o hb q => s3.extBut b o (fun e => hb (by simp [e])) q) fun b hb => ?_
      have hb2 : b = z := by simpa using hb
      subst hb2
      obtain ⟨f1, f2, f3, f4, f5, f6⟩ := hf b (by simp)
      exact ⟨by rw [upd_ne (Nat.ne_of_lt lz)]; exact f1, f2, f3, f4, f5, f6⟩
    refine ⟨.ref s.heap.objs.size, _, I3, rfl, ⟨_, x, y, rfl, I.hok.fresh (Nat.le_refl _), rfl, fun zs hz => by rw [SK.inj I hz q1]; exact hx, fun zs hz => by rw [SK.inj I hz q2]; exact hy⟩, ⟨⟨v3, f2, z3, hv3⟩, s3.extBut _ _ C.zTI hI2, ⟨a2, b2, s3.extBut _ _ C.zTO hO2⟩, ?_, ?_⟩, fun b hb => ?_⟩
    · exact SK.tn_at m1 fun o q => s3.extBut _ _ C.z1 q
    · exact SK.tn_at m2 fun o q => s3.extBut _ _ C.z2 q
    · rw [upd_ne (Nat.ne_of_lt (zip_lt st hb))]
      exact (hf b hb).1
  done := by
    intro X hP hw hK hc i pins s σ H E I hf st hg
    subst hP hw hK
    obtain ⟨xs, ys, q1, q2, l1, l2, hl⟩ := hg
    have hh : X.A.in1.handled = none := I.ok.hd hc
    obtain ⟨⟨v, f, hz, hv⟩, _⟩ := id st
    have hT := zip_type (h := s.heap) hz
    unfold pyNext
    refine wpAny_bind (wpAny_attempt (wpAny_callSpecial?_slot (name := Str.ofString "__next__") hT F.slot_zip_next (wpAny_call_entry F.slot_zip_next hT F.entry_zip_next ?_ (F.args_zip_next_1 _))))
    refine zip_halt hh C I hf st q1 q2 l1 l2 hl fun h2 e tk I1 he => ?_
    obtain ⟨o, ho, hcl⟩ := he
    exact wpAny_bind (wpAny_isInstance (T := "StopIteration") (b := true) ⟨o, ho, hcl⟩ isSubtype_stop (wpAny_pure ⟨rfl, I1⟩))
  self := fun A i s Q E st h => by
    obtain ⟨⟨v, f, hz, hv⟩, _⟩ := st
    have hT := zip_type (h := s.heap) hz
    refine wpAny_pyIter_slot hT F.slot_zip_iter (wpAny_call_entry F.slot_zip_iter hT F.entry_zip_iter ?_ (F.args_zip_iter_1 _))
    show wpAny _ _ (ret (.ref z)) _ _ s
    exact wpAny_pure ⟨_, rfl, "zip", _, hT, F.slot_zip_next.lookup, h⟩
end Lw

set_option Elab.async false
set_option linter.all false
set_option maxRecDepth 100000
set_option maxHeartbeats 1000000
/-! Lw13: enumerate(zip(..)); how enumerate and zip begin. -/
namespace Lw
open PySem PySem.Spec PyProof.Rows L2

def ItezK (K : PySem.W.Frag) (k1 k2 : SK) : It :=
  ⟨fun i H => ∃ xs ys x y, k1.at K H xs ∧ k2.at K H ys ∧ xs[i]? = some x ∧ ys[i]? = some y,
    fun i H v H2 => ∃ T T2 x y, v = .ref T2 ∧ H T = none ∧ upd H T (.tup [x, y]) T2 = none ∧ H2 = upd (upd H T (.tup [x, y])) T2 (.tup [.int (i : Nat), .ref T]) ∧ (∀ xs, k1.at K H xs → xs[i]? = some x) ∧ ∀ ys, k2.at K H ys → ys[i]? = some y,
    fun i H => ∃ xs ys, k1.at K H xs ∧ k2.at K H ys ∧ i ≤ xs.length ∧ i ≤ ys.length ∧ (i = xs.length ∨ i = ys.length)⟩
theorem fp_upd {X : Cx} {pins : List (Addr × Obj)} {H : Hp} {b T : Addr} {o : HO} (h : FpOk X pins H b) (hn : b ≠ T) : FpOk X pins (upd H T o) b := by
  obtain ⟨f1, f2, f3, f4, f5, f6⟩ := h
  exact ⟨by rw [upd_ne hn]; exact f1, f2, f3, f4, f5, f6⟩
theorem turn_ezK {P : Program} {w : World} {K : PySem.W.Frag} {elts : List Expr} {kk : Nat} {tpos : Pos} (k1 k2 : SK) {e z TI TO i1 i2 : Addr} (t1 t2 : Tok) (C : ZCell z TI TO i1 i2) (he0 : e ∉ [z, TI, TO, i1, i2]) :
    Turn P w K (.Tuple elts kk tpos) (ItezK K k1 k2) (e :: [z, TI, TO, i1, i2]) e (fun i h => (∃ old, IsEnum h e z ((i : Nat) : Int) old) ∧ zipTn k1 k2 z TI TO i1 i2 t1 t2 i h) where
  mem := by simp
  obj := fun i h st b hb => by
    obtain ⟨⟨old, he⟩, st⟩ := st
    rcases List.mem_cons.mp hb with q | q
    · rw [q]
      exact ⟨_, he, fun v z => nomatch z⟩
    · exact zip_obj st q
  keep := fun i h h2 st k => by
    obtain ⟨⟨old, he⟩, st⟩ := st
    exact ⟨⟨old, k e (List.mem_cons_self ..) _ he⟩, zip_keep st fun b hb o q => k b (List.mem_cons_of_mem _ hb) o q⟩
  item := by
    intro X hP hw hK hc i pins s σ H E I hf st hg
    subst hP hw hK
    obtain ⟨⟨old, he⟩, st⟩ := st
    obtain ⟨xs, ys, x, y, q1, q2, hx, hy⟩ := hg
    have hh : X.A.in1.in1.handled = none := I.ok.hd hc
    obtain ⟨⟨v, f, hz, hv⟩, _⟩ := id st
    have hT := zip_type (h := s.heap) hz
    have lz : e < s.heap.objs.size := Heap.lt_size he
    have hf2 : ∀ b ∈ [z, TI, TO, i1, i2], FpOk X pins H b := fun b hb => hf b (List.mem_cons_of_mem _ hb)
    refine enum_next he ?_
    unfold Builtin.SmallTypes.nextOf
    refine wpAny_bind (wpAny_callSpecial?_slot (name := Str.ofString "__next__") hT F.slot_zip_next (wpAny_call_entry F.slot_zip_next hT F.entry_zip_next ?_ (F.args_zip_next_1 _)))
    refine zip_turn hh C I hf2 st q1 q2 hx hy fun h2 tk I1 st2 hsz hk => wpAny_pure ⟨hk _ _ he0 he, fun h3 t3 ho hT3 hs3 hk3 => ?_⟩
    replace ho : IsEnumOut h3 e z ((i : Int) + 1) (.ref s.heap.objs.size) h2.objs.size := ho
    replace hT3 : h3.get? h2.objs.size = some (pairObj i t3 (.ref s.heap.objs.size)) := hT3
    replace hs3 : h3.objs.size = h2.objs.size + 1 := hs3
    replace hk3 : ∀ b o, b ≠ e → h2.get? b = some o → h3.get? b = some o := hk3
    refine ⟨_, rfl, wpAny_letOwnedTupleGo_enum (s := { s with heap := h3, toks := t3 + 1 }) ho fun h4 he4 sb => ?_⟩
    replace sb : Heap.SameBut e h3 h4 := sb
    have le2 : e < h2.objs.size := by rw [hsz]; exact Nat.lt_succ_of_lt lz
    have hT4 : h4.get? h2.objs.size = some (pairObj i t3 (.ref s.heap.objs.size)) := (sb.2 _ (Nat.ne_of_gt le2)).trans hT3
    have hn : upd H s.heap.objs.size (.tup [x, y]) h2.objs.size = none := I1.hok.fresh (Nat.le_refl _)
    have new : ObjOk X.prog X.w (upd (upd H s.heap.objs.size (.tup [x, y])) h2.objs.size (.tup [.int (i : Nat), .ref s.heap.objs.size])) h4 h2.objs.size (.tup [.int (i : Nat), .ref s.heap.objs.size]) :=
      ⟨by show 2 ≤ sizeLine; decide, [.int i t3, .ref s.heap.objs.size], .cons ⟨_, rfl⟩ (.cons rfl .nil), ⟨_, hT4, rfl, _, rfl⟩⟩
    have fe : FpOk X pins (upd H s.heap.objs.size (.tup [x, y])) e := fp_upd (hf e (List.mem_cons_self ..)) (Nat.ne_of_lt lz)
    have I4 : Inv X pins σ (upd (upd H s.heap.objs.size (.tup [x, y])) h2.objs.size (.tup [.int (i : Nat), .ref s.heap.objs.size])) { s with heap := h4, toks := t3 + 1 } := by
      refine Inv.turnedNew (s := { s with heap := h2, toks := tk }) (t' := t3 + 1) I1 (ch := [e]) (fun b o hb q => (sb.2 b fun z => hb (by simp [z])).trans (hk3 b o (fun z => hb (by simp [z])) q)) (fun b hb => ?_) (Nat.le_refl _) new
      have hb2 : b = e := by simpa using hb
      rw [hb2]
      exact fe
    have ne5 : ∀ b ∈ [z, TI, TO, i1, i2], b ≠ e := fun b hb q => he0 (q ▸ hb)
    refine ⟨.ref h2.objs.size, _, I4, rfl, ⟨s.heap.objs.size, h2.objs.size, x, y, rfl, I.hok.fresh (Nat.le_refl _), hn, rfl, fun zs hz => by rw [SK.inj I hz q1]; exact hx, fun zs hz => by rw [SK.inj I hz q2]; exact hy⟩, ⟨⟨.ref s.heap.objs.size, ?_⟩, ?_⟩, fun b hb => ?_⟩
    · have e1 : ((i + 1 : Nat) : Int) = (i : Int) + 1 := by omega
      rw [e1]
      exact he4
    · exact zip_keep st2 fun b hb o q => (sb.2 b (ne5 b hb)).trans (hk3 b o (ne5 b hb) q)
    · have hb2 : b < s.heap.objs.size := by
        rcases List.mem_cons.mp hb with q | q
        · rw [q]
          exact lz
        · exact zip_lt st q
      have hb3 : b < h2.objs.size := by rw [hsz]; exact Nat.lt_succ_of_lt hb2
      rw [upd_ne (Nat.ne_of_lt hb3), upd_ne (Nat.ne_of_lt hb2)]
      exact (hf b hb).1
  done := by
    intro X hP hw hK hc i pins s σ H E I hf st hg
    subst hP hw hK
    obtain ⟨⟨old, he⟩, st⟩ := st
    obtain ⟨xs, ys, q1, q2, l1, l2, hl⟩ := hg
    have hh : X.A.in1.in1.handled = none := I.ok.hd hc
    obtain ⟨⟨v, f, hz, hv⟩, _⟩ := id st
    have hT := zip_type (h := s.heap) hz
    have hf2 : ∀ b ∈ [z, TI, TO, i1, i2], FpOk X pins H b := fun b hb => hf b (List.mem_cons_of_mem _ hb)
    refine enum_end he ?_
    unfold Builtin.SmallTypes.nextOf
    refine wpAny_bind (wpAny_callSpecial?_slot (name := Str.ofString "__next__") hT F.slot_zip_next (wpAny_call_entry F.slot_zip_next hT F.entry_zip_next ?_ (F.args_zip_next_1 _)))
    refine zip_halt hh C I hf2 st q1 q2 l1 l2 hl fun h2 a tk I1 hs => ?_
    obtain ⟨o, ho, hcl⟩ := hs
    exact ⟨⟨a, o, rfl, ho, hcl⟩, rfl, I1⟩
  self := fun A i s Q E st h => let ⟨⟨_, he⟩, _⟩ := st; wpAny_pyIter_enum he h

/-! ### how they begin -/
def SK.hyp : SK → Value → (Heap → Prop) → Prop
  | _, _, _ => True
theorem SK.begin {X : Cx} {pins : List (Addr × Obj)} {σ : L2.St} {H : Hp} {s : Shared} {k : SK} {xs : List V} {u : Value} (I : Inv X pins σ H s) (h : k.at X.K H xs) (r : RelV k.val u) : ∃ t Hy, Begins u (k.ob t) Hy ∧ Hy s.heap ∧ ∀ it h2, h2.get? it = some (k.ob t) → k.tn it t 0 h2 := by
  cases k with
  | l a =>
    have e : u = .ref a := r
    subst e
    obtain ⟨its, rv, p, hz⟩ := I.list h
    exact ⟨0, _, begins_list a its.toArray, p.isList, fun it h2 q => ⟨_, q, rfl, rfl⟩⟩
  | t a =>
    have e : u = .ref a := r
    subst e
    obtain ⟨its, rv, p, hz⟩ := I.tuple h
    exact ⟨0, _, begins_tuple a its.toArray, p, fun it h2 q => ⟨_, q, rfl, rfl⟩⟩
  | s x =>
    obtain ⟨t, e⟩ := r
    subst e
    exact ⟨t, _, begins_text x t, trivial, fun it h2 q => ⟨_, q, rfl, rfl⟩⟩
abbrev enumObj (it : Addr) : Obj := { cls := .type "enumerate", data := .fields #[.none, .bool false, .ref it, rawInt 0, .none, .none] }
theorem meets_enum1 (v : Value) (af : Heap → Addr) (hf : Heap → Heap) :
    Meets (Builtin.«enumerate.__new__» ⟨[.type "enumerate", v], []⟩) (fun _ R s => (∀ (prog : Program) (w : World) (A : Around) (E : Value → Shared → Prop) (Q : Value → Shared → Prop), Q (.ref (af s.heap)) { s with heap := hf s.heap } → wpAny (model prog w) A (pyIter v) Q E s) ∧
      R (.ok (.ret (.ref (hf s.heap).objs.size))) { s with heap := (hf s.heap).push (enumObj (af s.heap)) }) :=
  .of_wp fun prog w A R s h => by
    obtain ⟨hp, g, d, tk, os⟩ := s
    obtain ⟨hi, h⟩ := h
    have q1 : ∀ {A2 : Around} {E : Value → Shared → Prop} {Q : Value → Shared → Prop}, Q (.ref (af hp)) ⟨hf hp, g, d, tk, os⟩ → wpAny (model prog w) A2 (pyIter v) Q E ⟨hp, g, d, tk, os⟩ := fun q => hi prog w _ _ _ q
    have hsub := sub_enumerate
    wp_walk using q1
    refine wpAny_stack_any fun st => wpAny_pure ?_
    split
    · rename_i c _ _ _ _ _
      cases (c == Value.type "enumerate")
      · wp_walk using q1
        exact ⟨_, rfl, h⟩
      · wp_walk using q1
        exact ⟨_, rfl, h⟩
    · wp_walk using q1
      exact ⟨_, rfl, h⟩
section
variable {prog : Program} {w : World} {A : Around} {E : Value → Shared → Prop} {s : Shared}
theorem call_enum1 {v : Value} {it : Addr} {h1 : Heap} {Q : Value → Shared → Prop} (hi : ∀ (prog : Program) (w : World) (A : Around) (E : Value → Shared → Prop) (Q : Value → Shared → Prop), Q (.ref it) { s with heap := h1 } → wpAny (model prog w) A (pyIter v) Q E s)
    (h : IsEnum (h1.push (enumObj it)) h1.objs.size it 0 .none → Q (.ref h1.objs.size) { s with heap := h1.push (enumObj it) }) : wpAny (model prog w) A (call (.type "enumerate") [v]) Q E s := by
  have he : IsEnum (h1.push (enumObj it)) h1.objs.size it 0 .none := Heap.get?_push_size h1 rfl
  exact callType_new F.called_enumerate (by decide) (F.typeCall_enumerate_1 _) (F.newCall_enumerate_1 _) (fun obj => F.args_object_init_2 obj _) F.entry_enumerate_new
    (meets_enum1 v (fun _ => it) (fun _ => h1)) ⟨hi, ⟨_, he, rfl⟩, h he⟩
end
def iEnumK (K : PySem.W.Frag) (ta : TA) : TI := fun σ H R => ta σ H fun vs H1 => ∃ k xs, vs = [SK.val k] ∧ k.at K H1 xs ∧ R (IteK K k) H1
def iZipK (K : PySem.W.Frag) (ta : TA) : TI := fun σ H R => ta σ H fun vs H1 => ∃ k1 k2 xs ys, vs = [SK.val k1, SK.val k2] ∧ k1.at K H1 xs ∧ k2.at K H1 ys ∧ R (ItzK K k1 k2) H1
def iEzK (K : PySem.W.Frag) (ta : TA) : TI := fun σ H R => ta σ H fun vs H1 => ∃ k1 k2 xs ys, vs = [SK.val k1, SK.val k2] ∧ k1.at K H1 xs ∧ k2.at K H1 ys ∧ R (ItezK K k1 k2) H1
section
variable {X : Cx} {ta : TA} {e f : Expr} {elts : List Expr} {kk : Nat} {p p2 pos pos2 tpos : Pos} {tg : Expr}
theorem pi_enumK (hg : Gl X "enumerate") (hm : X.mg "enumerate" = none) (ha : PA X [e] ta) (hn : noStar e = true) : PI X (.Tuple elts kk tpos) (.Call (.Name "enumerate" p) [e] [] pos) (iEnumK X.K ta) := by
  refine ⟨fun pins s σ H R I h => ?_⟩
  refine Call_ (ld_blt I hg hm boot_enumerate (PyProof.Rows.callWith_type1 (thn (ha.run pos pins s σ H _ I h) fun us s1 ⟨vs, H1, I1, r1, q1⟩ => ?_) (star_cons hn) rfl))
  obtain ⟨k, xs, ex, hq, q⟩ := q1
  subst ex
  cases r1 with
  | cons r rr =>
    cases rr
    obtain ⟨t, Hy, B, hy, tn0⟩ := SK.begin I1 hq r
    refine call_enum1 (it := s1.heap.objs.size) (h1 := s1.heap.push (k.ob t)) (fun prog w A E Q q => B.iter prog w A E s1 Q hy q) fun he => wpAny_pyIter_enum he ?_
    have n1 : (s1.heap.push (k.ob t)).objs.size = s1.heap.objs.size + 1 := Heap.size_push ..
    have I2 : Inv X pins σ H1 { s1 with heap := (s1.heap.push (k.ob t)).push (enumObj s1.heap.objs.size) } := I1.kept (t' := s1.toks) fun b o y => Heap.get?_push_of_some _ (Heap.get?_push_of_some _ y)
    have hit : k.tn s1.heap.objs.size t 0 ((s1.heap.push (k.ob t)).push (enumObj s1.heap.objs.size)) := tn0 _ _ (Heap.get?_push_of_some _ (Heap.get?_push_size _ B.free))
    refine ⟨(s1.heap.push (k.ob t)).objs.size, [(s1.heap.push (k.ob t)).objs.size, s1.heap.objs.size], _, _, H1, rfl, I2, turn_enumK k _ s1.heap.objs.size t, ⟨⟨.none, he⟩, hit, ?_⟩, fun b hb => ?_, q⟩
    · rw [n1]
      exact Nat.succ_ne_self _
    · have hle : s1.heap.objs.size ≤ b := by
        have hb2 : b = (s1.heap.push (k.ob t)).objs.size ∨ b = s1.heap.objs.size := by simpa using hb
        rcases hb2 with z | z
        · rw [z, n1]
          exact Nat.le_succ _
        · rw [z]
          exact Nat.le_refl _
      exact I1.fpOk hle (I1.hok.fresh hle)
theorem zcell (N : Nat) : ZCell (N + 4) (N + 2) (N + 3) N (N + 1) :=
  { zTI := show (N + 2 : Nat) ≠ N + 4 by omega, zTO := show (N + 3 : Nat) ≠ N + 4 by omega, z1 := show (N : Nat) ≠ N + 4 by omega, z2 := show (N + 1 : Nat) ≠ N + 4 by omega, TT := show (N + 2 : Nat) ≠ N + 3 by omega,
    TI1 := show (N + 2 : Nat) ≠ N by omega, TI2 := show (N + 2 : Nat) ≠ N + 1 by omega, TO1 := show (N + 3 : Nat) ≠ N by omega, TO2 := show (N + 3 : Nat) ≠ N + 1 by omega, ii := show (N : Nat) ≠ N + 1 by omega }
/-- zip(v, w) is called -/
theorem zip_called {pins : List (Addr × Obj)} {σ : L2.St} {H : Hp} {s : Shared} {k1 k2 : SK} {xs ys : List V} {u1 u2 : Value} {Q : Value → Shared → Prop} (I : Inv X pins σ H s) (h1 : k1.at X.K H xs) (h2 : k2.at X.K H ys) (r1 : RelV k1.val u1) (r2 : RelV k2.val u2)
    (h : ∀ hp t1 t2, Inv X pins σ H { s with heap := hp } → zipTn k1 k2 (s.heap.objs.size + 4) (s.heap.objs.size + 2) (s.heap.objs.size + 3) s.heap.objs.size (s.heap.objs.size + 1) t1 t2 0 hp → hp.objs.size = s.heap.objs.size + 5 → Q (.ref (s.heap.objs.size + 4)) { s with heap := hp }) :
    wpAny (model X.prog X.w) X.A (call (.type "zip") [u1, u2]) Q X.xe s := by
  obtain ⟨t1, Y1, B1, y1, n1⟩ := SK.begin I h1 r1
  obtain ⟨t2, Y2, B2, y2, n2⟩ := SK.begin I h2 r2
  refine zip_begins2 B1 B2 y1 y2 fun hp hz hI hO g1 g2 hsz hk => ?_
  exact h hp t1 t2 (I.kept (t' := s.toks) hk) ⟨⟨.none, false, hz, .inl rfl⟩, hI, ⟨_, _, hO⟩, n1 _ _ g1, n2 _ _ g2⟩ hsz
theorem fresh_five {pins : List (Addr × Obj)} {σ : L2.St} {H : Hp} {s : Shared} (I : Inv X pins σ H s) : ∀ c ∈ [s.heap.objs.size + 4, s.heap.objs.size + 2, s.heap.objs.size + 3, s.heap.objs.size, s.heap.objs.size + 1], FpOk X pins H c := fun c hc => by
  have hle : s.heap.objs.size ≤ c := by
    rcases five hc with z | z | z | z | z <;> rw [z] <;> first | exact Nat.le_add_right _ _ | exact Nat.le_refl _
  exact I.fpOk hle (I.hok.fresh hle)
theorem zip_self {A : Around} {E : Value → Shared → Prop} {s : Shared} {z TI TO : Addr} {v : Value} {f : Bool} {Q : Value → Shared → Prop} {prog : Program} {w : World} (hz : ZipIs s.heap z TI TO v f) (h : Q (.ref z) s) : wpAny (model prog w) A (pyIter (.ref z)) Q E s := by
  have hT := zip_type (h := s.heap) hz
  refine wpAny_pyIter_slot hT F.slot_zip_iter (wpAny_call_entry F.slot_zip_iter hT F.entry_zip_iter ?_ (F.args_zip_iter_1 _))
  show wpAny _ _ (ret (.ref z)) _ _ s
  exact wpAny_pure ⟨_, rfl, "zip", _, hT, F.slot_zip_next.lookup, h⟩
theorem pi_zipK (hg : Gl X "zip") (hm : X.mg "zip" = none) (ha : PA X [e, f] ta) (he : noStar e = true) (hf : noStar f = true) : PI X tg (.Call (.Name "zip" p) [e, f] [] pos) (iZipK X.K ta) := by
  refine ⟨fun pins s σ H R I h => ?_⟩
  refine Call_ (ld_blt I hg hm PyProof.Rows.boot_zip (PyProof.Rows.callWith_type1 (thn (ha.run pos pins s σ H _ I h) fun us s1 ⟨vs, H1, I1, r1, q1⟩ => ?_) (star_cons he) (by rw [star_cons hf]; rfl)))
  obtain ⟨k1, k2, xs, ys, ex, h1, h2, q⟩ := q1
  subst ex
  cases r1 with
  | cons r rr =>
    cases rr with
    | cons r' rr =>
      cases rr
      refine zip_called I1 h1 h2 r r' fun hp t1 t2 I2 st hsz => ?_
      obtain ⟨⟨v, f, hz, hv⟩, _⟩ := id st
      refine zip_self hz ?_
      exact ⟨_, _, _, _, H1, rfl, I2, turn_zipK k1 k2 t1 t2 (zcell _), st, fresh_five I1, q⟩
theorem pi_ezK (hg : Gl X "enumerate") (hm : X.mg "enumerate" = none) (hg2 : Gl X "zip") (hm2 : X.mg "zip" = none) (ha : PA X [e, f] ta) (he : noStar e = true) (hf : noStar f = true) :
    PI X (.Tuple elts kk tpos) (.Call (.Name "enumerate" p) [.Call (.Name "zip" p2) [e, f] [] pos2] [] pos) (iEzK X.K ta) := by
  refine ⟨fun pins s σ H R I h => ?_⟩
  refine Call_ (ld_blt I hg hm boot_enumerate (PyProof.Rows.callWith_type1 (Calls.spliced_cons (Call_ (ld_blt I hg2 hm2 PyProof.Rows.boot_zip (PyProof.Rows.callWith_type1 (thn (ha.run pos2 pins s σ H _ I h) fun us s1 ⟨vs, H1, I1, r1, q1⟩ => ?_) (star_cons he) (by rw [star_cons hf]; rfl))))) (star_cons rfl) rfl))
  obtain ⟨k1, k2, xs, ys, ex, h1, h2, q⟩ := q1
  subst ex
  cases r1 with
  | cons r rr =>
    cases rr with
    | cons r' rr =>
      cases rr
      refine zip_called I1 h1 h2 r r' fun hp t1 t2 I2 st hsz => Calls.spliced_nil ?_
      obtain ⟨⟨v, f, hz, hv⟩, _⟩ := id st
      refine call_enum1 (it := s1.heap.objs.size + 4) (h1 := hp) (fun prog w A E Q q => zip_self hz q) fun he => wpAny_pyIter_enum he ?_
      have I3 : Inv X pins σ H1 { s1 with heap := hp.push (enumObj (s1.heap.objs.size + 4)) } := I2.kept (t' := s1.toks) fun b o y => Heap.get?_push_of_some _ y
      have ne5 : hp.objs.size ∉ [s1.heap.objs.size + 4, s1.heap.objs.size + 2, s1.heap.objs.size + 3, s1.heap.objs.size, s1.heap.objs.size + 1] := fun z => absurd (zip_lt st z) (Nat.lt_irrefl _)
      refine ⟨hp.objs.size, hp.objs.size :: [s1.heap.objs.size + 4, s1.heap.objs.size + 2, s1.heap.objs.size + 3, s1.heap.objs.size, s1.heap.objs.size + 1], _, _, H1, rfl, I3, turn_ezK k1 k2 t1 t2 (zcell _) ne5, ⟨⟨.none, he⟩, zip_keep st fun b hb o y => Heap.get?_push_of_some _ y⟩, fun b hb => ?_, q⟩
      rcases List.mem_cons.mp hb with z | z
      · have hle : s1.heap.objs.size ≤ b := by rw [z, hsz]; exact Nat.le_add_right _ _
        exact I1.fpOk hle (I1.hok.fresh hle)
      · exact fresh_five I1 b z
end
end Lw

set_option Elab.async false
set_option linter.all false
set_option maxRecDepth 100000
set_option maxHeartbeats 1000000
/-! Lw14: sources, targets, list comprehensions, by trees. -/
namespace Lw
open PySem PySem.Spec PyProof.Rows L2

mutual
def tgN : Tg → List Nat
  | .name i => [i]
  | .fld _ _ => []
  | .idx _ _ => []
  | .tup ts => tgsN ts
def tgsN : Tgs → List Nat
  | .nil => []
  | .cons t ts => tgN t ++ tgsN ts
end
section
variable (K : PySem.W.Frag) (n : Nm) (g : G) (fs : Nat → Option Fd) (l : Nat)
/-- what a walk gives: the items told, as long as gd stands -/
def SrcJ (Z1 : Hp) (items : List D) (gd : Guard) (J : It) : Prop := ∀ i Z M H, Same Z1 Z → Rel K n Z M H → gd M →
  (∀ d, items[i]? = some d → J.go i H ∧ ∀ x H2, J.yld i H x H2 → ∃ Z2, Same Z Z2 ∧ Rel K n Z2 M H2 ∧ Rep K n Z2 d x) ∧ (items.length = i → J.stop i H)
def iS (src : Src) (W : WX) : TI := fun σ H R => ∃ Z env M Pd xq, Rel K n Z M H ∧ ERel K n Z env σ ∧ wpSrc g (wpF g fs l) src env M Pd xq ∧
  (∀ Z1 M1 H1 items gd J, Same Z Z1 → Rel K n Z1 M1 H1 → SrcJ K n Z1 items gd J → Pd items gd M1 → R J H1) ∧ RXn K n Z xq (WE W σ)
def GEnd (Z : Hp) (ns : List Nat) (σ : L2.St) (Pd : DEnv → Mem → Prop) (Q : L2.St → Hp → Prop) : Prop := ∀ Z' M' H' env' σ', Same Z Z' → Rel K n Z' M' H' → ERel K n Z' env' σ' → σ'.length = σ.length → (∀ i, i ∉ ns → σ'[i]? = σ[i]?) → Pd env' M' → Q σ' H'
def tG (tg : Tg) : TG := fun v σ H Q => ∃ Z env M d Pd xq, Rel K n Z M H ∧ ERel K n Z env σ ∧ Rep K n Z d v ∧ wpTg g (wpF g fs l) tg d env M Pd xq ∧ GEnd K n Z (tgN tg) σ Pd Q
def tGs (ts : Tgs) : TGs := fun vs σ H Q => ∃ Z env M ds Pd xq, Rel K n Z M H ∧ ERel K n Z env σ ∧ Reps K n Z ds vs ∧ wpTgs g (wpF g fs l) ts ds env M Pd xq ∧ GEnd K n Z (tgsN ts) σ Pd Q
end
section
variable {n : Nm} {g : G} {fs : Nat → Option Fd} {l : Nat} {X : Cx} {c : Cc} {W : WX} {pos : Pos}
/-! ### sources -/
theorem _root_.L2.PI.mono {tg e : Expr} {t t' : TI} (h : PI X tg e t) (k : ∀ σ H R, t' σ H R → t σ H R) : PI X tg e t' := ⟨fun pins s σ H R I q => h.run pins s σ H R I (k σ H R q)⟩
/-- a value that is walked, as long as gd stands -/
def AtK (K : PySem.W.Frag) (n : Nm) (Z1 : Hp) (k : SK) (items : List D) (gd : Guard) : Prop := ∀ Z M H, Same Z1 Z → Rel K n Z M H → gd M → ∃ vs, k.at K H vs ∧ Reps K n Z items vs
theorem items_at {K : PySem.W.Frag} {Z H : Hp} {M : Mem} {d : D} {x : V} {items : List D} (R : Rel K n Z M H) (r : Rep K n Z d x) (e : itemsF (deref M d) = some items) : ∃ k, x = SK.val k ∧ AtK K n Z k items (gdOf M d) := by
  cases d with
  | loc a =>
    have ex : x = .ref a := by
      unfold Rep at r
      exact r
    cases em : M a with
    | none =>
      rw [show deref M (.loc a) = .loc a by simp [deref, em]] at e
      cases e
    | some o =>
      cases o with
      | lst xs =>
        rw [show deref M (.loc a) = .lst xs by simp [deref, em]] at e
        cases e
        refine ⟨.l a, ex, fun Z2 M2 H2 s R2 hg => ?_⟩
        have hg : M2 a = M a := hg
        rw [em] at hg
        obtain ⟨_, vs, h1, h2⟩ := R2.may a _ hg
        exact ⟨vs, SqL.of h1, h2⟩
      | ins cl fl vs =>
        rw [show deref M (.loc a) = .ins cl fl vs by simp [deref, em]] at e
        cases e
      | dct ks vs =>
        rw [show deref M (.loc a) = .dct ks vs by simp [deref, em]] at e
        cases e
  | lst xs =>
    have e : itemsF (.lst xs) = some items := e
    cases e
    unfold Rep at r
    obtain ⟨a, vs, ex, h1, h2⟩ := r
    exact ⟨.l a, ex, fun Z2 M2 H2 s R2 _ => ⟨vs, SqL.of (R2.sub _ _ (s _ _ h1)), Reps.mono _ _ s _ h2⟩⟩
  | tup xs =>
    have e : itemsF (.tup xs) = some items := e
    cases e
    unfold Rep at r
    obtain ⟨a, vs, ex, h1, h2⟩ := r
    exact ⟨.t a, ex, fun Z2 M2 H2 s R2 _ => ⟨vs, R2.T (sameU_T K (same_u s) h1), Reps.mono _ _ s _ h2⟩⟩
  | str cs =>
    have e : itemsF (.str cs) = some items := e
    cases e
    unfold Rep at r
    refine ⟨.s ⟨cs.toArray⟩, r, fun Z2 M2 H2 s R2 _ => ⟨_, rfl, ?_⟩⟩
    have h : Reps K n Z2 (cs.map fun c => D.str [c]) (cs.map fun c => V.str ⟨#[c]⟩) := Reps.map (fun c => rep_str) cs
    simpa using h
  | scr ns =>
    have e : itemsF (.scr ns) = some items := e
    cases e
    unfold Rep at r
    obtain ⟨a, ex, h1⟩ := r
    exact ⟨.l a, ex, fun Z2 M2 H2 s R2 _ => ⟨_, R2.L (sameU_L K (same_u s) h1), Reps.ints rfl⟩⟩
  | non => cases e
  | bl b => cases e
  | int i => cases e
  | ins cl fl vs => cases e
  | dct ks vs => cases e
theorem AtK.mono {K : PySem.W.Frag} {Z Z1 : Hp} {k : SK} {items : List D} {gd : Guard} (s : Same Z Z1) (h : AtK K n Z k items gd) : AtK K n Z1 k items gd := fun Z2 M2 H2 s2 R2 hg => h Z2 M2 H2 (s.trans s2) R2 hg
def ItK (K : PySem.W.Frag) : SK → It
  | .l a => Itl K a
  | .t a => Itt K a
  | .s x => Its x
theorem srcj_of {K : PySem.W.Frag} {Z1 : Hp} {k : SK} {items : List D} {gd : Guard} (h : AtK K n Z1 k items gd) : SrcJ K n Z1 items gd (ItK K k) := by
  intro i Z M H s R hg
  obtain ⟨vs, h1, h2⟩ := h Z M H s R hg
  have hl := h2.length
  refine ⟨fun d hd => ?_, fun e => ?_⟩
  · obtain ⟨v, h3, h4⟩ := h2.get hd
    cases k with
    | l a => exact ⟨⟨vs, v, h1, h3⟩, fun x H2 ⟨e1, e2⟩ => ⟨Z, Same.refl Z, by rw [e1]; exact R, by have := e2 vs h1; rw [h3] at this; cases this; exact h4⟩⟩
    | t a => exact ⟨⟨vs, v, h1, h3⟩, fun x H2 ⟨e1, e2⟩ => ⟨Z, Same.refl Z, by rw [e1]; exact R, by have := e2 vs h1; rw [h3] at this; cases this; exact h4⟩⟩
    | s x =>
      have ev : vs = x.cps.toList.map fun c => V.str ⟨#[c]⟩ := h1
      have hi : i < x.cps.size := by
        rcases Nat.lt_or_ge i x.cps.size with q | q
        · exact q
        · rw [ev, List.getElem?_eq_none (by rw [List.length_map, Array.length_toList]; exact q)] at h3
          cases h3
      refine ⟨hi, fun y H2 ⟨e1, ch, hc, ey⟩ => ⟨Z, Same.refl Z, by rw [e1]; exact R, ?_⟩⟩
      rw [ev, List.getElem?_map, Array.getElem?_toList, hc] at h3
      cases h3
      rw [ey]
      exact h4
  · cases k with
    | l a => exact ⟨vs, h1, by omega⟩
    | t a => exact ⟨vs, h1, by omega⟩
    | s x =>
      have ev : vs = x.cps.toList.map fun c => V.str ⟨#[c]⟩ := h1
      show x.cps.size ≤ i
      rw [ev, List.length_map, Array.length_toList] at hl
      omega
theorem enumL_get {xs : List D} {i : Nat} {d : D} (h : (enumL xs)[i]? = some d) : ∃ x, xs[i]? = some x ∧ d = .tup [.int (i : Nat), x] := by
  unfold enumL at h
  rw [List.getElem?_map, List.getElem?_zipIdx] at h
  cases q : xs[i]? with
  | none =>
    rw [q] at h
    cases h
  | some x =>
    rw [q] at h
    have h : some (D.tup [.int ((0 + i : Nat) : Int), x]) = some d := h
    rw [Nat.zero_add] at h
    cases h
    exact ⟨x, rfl, rfl⟩
theorem enumL_len {xs : List D} : (enumL xs).length = xs.length := by simp [enumL]
theorem rep_pair {K : PySem.W.Frag} {Z : Hp} {a b : D} {x y : V} {T : Addr} (h : Z T = some (.tup [x, y])) (r1 : Rep K n Z a x) (r2 : Rep K n Z b y) : Rep K n Z (.tup [a, b]) (.ref T) := rep_tup h (Reps.cons r1 (Reps.cons r2 Reps.nil))
theorem srcj_enum {K : PySem.W.Frag} {Z1 : Hp} {k : SK} {items : List D} {gd : Guard} (h : AtK K n Z1 k items gd) : SrcJ K n Z1 (enumL items) gd (IteK K k) := by
  intro i Z M H s R hg
  obtain ⟨vs, h1, h2⟩ := h Z M H s R hg
  have hl := h2.length
  refine ⟨fun d hd => ?_, fun e => ⟨vs, h1, by rw [hl, ← enumL_len]; exact e⟩⟩
  obtain ⟨x, hx, ed⟩ := enumL_get hd
  obtain ⟨v, h3, h4⟩ := h2.get hx
  refine ⟨⟨vs, v, h1, h3⟩, fun y H2 ⟨T, w, ey, hT, eH, hv⟩ => ?_⟩
  have hw := hv vs h1
  rw [h3] at hw
  cases hw
  subst ey eH ed
  have hs : Same Z (upd Z T (.tup [.int (i : Nat), v])) := same_upd (R.fresh hT).1
  exact ⟨_, hs, R.frozen hT, rep_pair upd_same rep_int (Rep.mono _ _ hs _ h4)⟩
theorem zipL_get {xs ys : List D} {i : Nat} {d : D} (h : (zipL xs ys)[i]? = some d) : ∃ x y, xs[i]? = some x ∧ ys[i]? = some y ∧ d = .tup [x, y] := by
  unfold zipL at h
  rw [List.getElem?_map] at h
  cases q : (xs.zip ys)[i]? with
  | none =>
    rw [q] at h
    cases h
  | some p =>
    rw [q] at h
    cases h
    obtain ⟨h1, h2⟩ := List.getElem?_zip_eq_some.mp q
    exact ⟨p.1, p.2, h1, h2, rfl⟩
theorem zipL_len {xs ys : List D} : (zipL xs ys).length = min xs.length ys.length := by simp [zipL]
theorem srcj_zip {K : PySem.W.Frag} {Z1 : Hp} {k1 k2 : SK} {xs ys : List D} {g1 g2 : Guard} (h : AtK K n Z1 k1 xs g1) (h' : AtK K n Z1 k2 ys g2) : SrcJ K n Z1 (zipL xs ys) (fun m => g1 m ∧ g2 m) (ItzK K k1 k2) := by
  intro i Z M H s R hg
  obtain ⟨vs, h1, h2⟩ := h Z M H s R hg.1
  obtain ⟨us, h3, h4⟩ := h' Z M H s R hg.2
  have hl := h2.length
  have hl2 := h4.length
  refine ⟨fun d hd => ?_, fun e => ?_⟩
  · obtain ⟨x, y, hx, hy, ed⟩ := zipL_get hd
    obtain ⟨v, h5, h6⟩ := h2.get hx
    obtain ⟨u, h7, h8⟩ := h4.get hy
    refine ⟨⟨vs, us, v, u, h1, h3, h5, h7⟩, fun z H2 ⟨T, v2, u2, ez, hT, eH, hv, hu⟩ => ?_⟩
    have hw := hv vs h1
    rw [h5] at hw
    cases hw
    have hw := hu us h3
    rw [h7] at hw
    cases hw
    subst ez eH ed
    have hs : Same Z (upd Z T (.tup [v, u])) := same_upd (R.fresh hT).1
    exact ⟨_, hs, R.frozen hT, rep_pair upd_same (Rep.mono _ _ hs _ h6) (Rep.mono _ _ hs _ h8)⟩
  · rw [zipL_len] at e
    exact ⟨vs, us, h1, h3, by omega, by omega, by omega⟩
theorem srcj_ez {K : PySem.W.Frag} {Z1 : Hp} {k1 k2 : SK} {xs ys : List D} {g1 g2 : Guard} (h : AtK K n Z1 k1 xs g1) (h' : AtK K n Z1 k2 ys g2) : SrcJ K n Z1 (enumL (zipL xs ys)) (fun m => g1 m ∧ g2 m) (ItezK K k1 k2) := by
  intro i Z M H s R hg
  obtain ⟨vs, h1, h2⟩ := h Z M H s R hg.1
  obtain ⟨us, h3, h4⟩ := h' Z M H s R hg.2
  have hl := h2.length
  have hl2 := h4.length
  refine ⟨fun d hd => ?_, fun e => ?_⟩
  · obtain ⟨p, hp, ed⟩ := enumL_get hd
    obtain ⟨x, y, hx, hy, ep⟩ := zipL_get hp
    obtain ⟨v, h5, h6⟩ := h2.get hx
    obtain ⟨u, h7, h8⟩ := h4.get hy
    refine ⟨⟨vs, us, v, u, h1, h3, h5, h7⟩, fun z H2 ⟨T, T2, v2, u2, ez, hT, hT2, eH, hv, hu⟩ => ?_⟩
    have hw := hv vs h1
    rw [h5] at hw
    cases hw
    have hw := hu us h3
    rw [h7] at hw
    cases hw
    subst ez eH ed ep
    have hs : Same Z (upd Z T (.tup [v, u])) := same_upd (R.fresh hT).1
    have R2 := R.frozen (o := .tup [v, u]) hT
    have hs2 : Same (upd Z T (.tup [v, u])) (upd (upd Z T (.tup [v, u])) T2 (.tup [.int (i : Nat), .ref T])) := same_upd (R2.fresh hT2).1
    exact ⟨_, hs.trans hs2, R2.frozen hT2, rep_pair upd_same rep_int (Rep.mono _ _ hs2 _ (rep_pair upd_same (Rep.mono _ _ hs _ h6) (Rep.mono _ _ hs _ h8)))⟩
  · rw [enumL_len, zipL_len] at e
    exact ⟨vs, us, h1, h3, by omega, by omega, by omega⟩
theorem srcj_rng {K : PySem.W.Frag} {Z1 : Hp} {a b : Int} : SrcJ K n Z1 (rngL a b) (fun _ => True) (Itr a (b - a).toNat) := by
  intro i Z M H s R _
  have hl : (rngL a b).length = (b - a).toNat := by simp [rngL]
  refine ⟨fun d hd => ?_, fun e => by show (b - a).toNat ≤ i; omega⟩
  have hi : i < (b - a).toNat := by
    rcases Nat.lt_or_ge i (b - a).toNat with q | q
    · exact q
    · rw [List.getElem?_eq_none (by omega)] at hd
      cases hd
  refine ⟨hi, fun x H2 ⟨e1, e2⟩ => ⟨Z, Same.refl Z, by rw [e1]; exact R, ?_⟩⟩
  unfold rngL at hd
  rw [List.getElem?_map, List.getElem?_range hi] at hd
  cases hd
  rw [e2]
  exact rep_int
theorem srcj_step {K : PySem.W.Frag} {Z1 : Hp} {a c : Int} {k : Nat} : SrcJ K n Z1 (stepL a c k) (fun _ => True) (Itc a c k) := by
  intro i Z M H s R _
  have hl : (stepL a c k).length = k := by simp [stepL]
  refine ⟨fun d hd => ?_, fun e => by show k ≤ i; omega⟩
  have hi : i < k := by
    rcases Nat.lt_or_ge i k with q | q
    · exact q
    · rw [List.getElem?_eq_none (by omega)] at hd
      cases hd
  refine ⟨hi, fun x H2 ⟨e1, e2⟩ => ⟨Z, Same.refl Z, by rw [e1]; exact R, ?_⟩⟩
  unfold stepL at hd
  rw [List.getElem?_map, List.getElem?_range hi] at hd
  cases hd
  rw [e2]
  exact rep_int
/-- any value that is walked -/
def iSK (K : PySem.W.Frag) (te : TE) : TI := fun σ H R => te σ H fun x H1 => ∃ k xs, x = SK.val k ∧ k.at K H1 xs ∧ R (ItK K k) H1
theorem pi_sk {tg e : Expr} {te : TE} (he : PE X e te) : PI X tg e (iSK X.K te) := by
  refine ⟨fun pins s σ H R I h => thn (he.run pins s σ H _ I h) fun v s1 ⟨x, H1, I1, rx, k, xs, ex, hk, q⟩ => ?_⟩
  subst ex
  obtain ⟨t, Hy, B, hy, tn0⟩ := SK.begin I1 hk rx
  refine B.iter X.prog X.w X.A X.xe s1 _ hy ?_
  have st : k.tn s1.heap.objs.size t 0 (s1.heap.push (k.ob t)) := tn0 _ _ (Heap.get?_push_size _ B.free)
  cases k with
  | l a => exact pi_one (tk := s1.toks) I1 _ (turn_list a _) st q
  | t a => exact pi_one (tk := s1.toks) I1 _ (turn_tuple a _) st q
  | s x =>
    have hty : strIterType x = "str_ascii_iterator" ∨ strIterType x = "str_iterator" := by
      unfold strIterType
      split
      · exact .inl rfl
      · exact .inr rfl
    exact pi_one (tk := s1.toks) I1 _ (turn_str _ x t _ hty) st q
theorem s_of {tg e : Expr} {ie : E} (he : PE X e (tE X.K n g fs l ie W)) : PI X tg e (iS X.K n g fs l (.of ie) W) := (pi_sk he).mono fun σ H R ⟨Z, env, M, Pd, xq, R0, er, w, k, kx⟩ => by
  simp only [wpSrc] at w
  refine ⟨Z, env, M, _, xq, R0, er, w, fun Z1 M1 H1 d v s1 R1 r1 w1 => ?_, kx⟩
  obtain ⟨items, ei, w1⟩ := opt_elim w1
  obtain ⟨sk, ev, hat⟩ := items_at R1 r1 ei
  have hgd : gdOf M1 d M1 := by
    cases d <;> first | trivial | rfl
  obtain ⟨vs, h1, _⟩ := hat Z1 M1 H1 (Same.refl _) R1 hgd
  exact ⟨sk, vs, ev, h1, k Z1 M1 H1 items _ _ s1 R1 (srcj_of hat) w1⟩
theorem gd_now {M : Mem} {d : D} : gdOf M d M := by
  cases d <;> first | trivial | rfl
theorem s_rng1 (ok : Ok n g fs l X c) {tg e : Expr} {ie : E} {x : Str} {p : Pos} (hx : isGl c x = true) (ex : x = ("range" : Str)) (hn : noStar e = true) (he : PE X e (tE X.K n g fs l ie W)) : PI X tg (.Call (.Name x p) [e] [] pos) (iS X.K n g fs l (.rng1 ie) W) := by
  subst ex
  refine (pi_range1 (ok.gl hx).1 (ok.fc.free _ (by decide)) (pa_cons he pa_nil (star_cons hn)) (star_cons hn)).mono fun σ H R ⟨Z, env, M, Pd, xq, R0, er, w, k, kx⟩ => ?_
  simp only [wpSrc] at w
  refine ⟨Z, env, M, _, xq, R0, er, w, fun Z1 M1 H1 d v s1 R1 r1 w1 => ?_, kx⟩
  cases d with
  | int j =>
    have ev : v = .int j := r1.view R1
    refine ⟨j, by rw [ev], w1.1, w1.2.1, k Z1 M1 H1 _ _ _ s1 R1 ?_ w1.2.2⟩
    have q := srcj_rng (n := n) (K := X.K) (Z1 := Z1) (a := 0) (b := j)
    rw [Int.sub_zero] at q
    exact q
  | _ => exact w1.elim
theorem s_rng2 (ok : Ok n g fs l X c) {tg e f : Expr} {ie jf : E} {x : Str} {p : Pos} (hx : isGl c x = true) (ex : x = ("range" : Str)) (hn : noStar e = true) (hn2 : noStar f = true) (he : PE X e (tE X.K n g fs l ie W)) (hf : PE X f (tE X.K n g fs l jf W)) :
    PI X tg (.Call (.Name x p) [e, f] [] pos) (iS X.K n g fs l (.rng2 ie jf) W) := by
  subst ex
  refine (pi_range2 (ok.gl hx).1 (ok.fc.free _ (by decide)) (pa_cons he (pa_cons hf pa_nil (star_cons hn2)) (star_cons hn)) (by rw [star_cons hn, star_cons hn2]; rfl) (star_cons hn2)).mono fun σ H R ⟨Z, env, M, Pd, xq, R0, er, w, k, kx⟩ => ?_
  simp only [wpSrc] at w
  refine ⟨Z, env, M, _, xq, R0, er, w, fun Z1 M1 H1 d v s1 R1 r1 w1 => ⟨Z1, env, M1, _, xq, R1, er.mono s1, w1, fun Z2 M2 H2 d2 v2 s2 R2 r2 w2 => ?_, kx.mono s1⟩, kx⟩
  cases d with
  | int i =>
    cases d2 with
    | int j =>
      have ev : v = .int i := r1.view R1
      have ev2 : v2 = .int j := r2.view R2
      exact ⟨i, j, by rw [ev, ev2], w2.1, k Z2 M2 H2 _ _ _ (s1.trans s2) R2 srcj_rng w2.2⟩
    | _ => exact w2.elim
  | _ => exact w2.elim
theorem s_rng3 (ok : Ok n g fs l X c) {tg e f h : Expr} {ie jf ih : E} {x : Str} {p : Pos} (hx : isGl c x = true) (ex : x = ("range" : Str)) (hn : noStar e = true) (hn2 : noStar f = true) (hn3 : noStar h = true) (he : PE X e (tE X.K n g fs l ie W)) (hf : PE X f (tE X.K n g fs l jf W)) (hh : PE X h (tE X.K n g fs l ih W)) :
    PI X tg (.Call (.Name x p) [e, f, h] [] pos) (iS X.K n g fs l (.rng3 ie jf ih) W) := by
  subst ex
  refine (pi_range3 (ok.gl hx).1 (ok.fc.free _ (by decide)) (pa_cons he (pa_cons hf (pa_cons hh pa_nil (star_cons hn3)) (star_cons hn2)) (star_cons hn)) (star_cons hn) (stars_any (by show (noStar f && (noStar h && true)) = true; rw [hn2, hn3]; rfl))).mono fun σ H R ⟨Z, env, M, Pd, xq, R0, er, w, k, kx⟩ => ?_
  simp only [wpSrc] at w
  refine ⟨Z, env, M, _, xq, R0, er, w, fun Z1 M1 H1 d v s1 R1 r1 w1 => ⟨Z1, env, M1, _, xq, R1, er.mono s1, w1, fun Z2 M2 H2 d2 v2 s2 R2 r2 w2 => ⟨Z2, env, M2, _, xq, R2, er.mono (s1.trans s2), w2, fun Z3 M3 H3 d3 v3 s3 R3 r3 w3 => ?_, kx.mono (s1.trans s2)⟩, kx.mono s1⟩, kx⟩
  dsimp only at w3
  split at w3
  · rename_i i j
    have ev : v = .int i := r1.view R1
    have ev2 : v2 = .int j := r2.view R2
    have ev3 : v3 = .int (-1) := r3.view R3
    obtain ⟨⟨b1, b2, b3, b4⟩, w3⟩ := w3
    exact ⟨i, j, -1, _, by rw [ev, ev2, ev3], RgC.neg b1 b2 b3 b4, k Z3 M3 H3 _ _ _ ((s1.trans s2).trans s3) R3 srcj_step w3⟩
  · exact w3.elim
theorem s_enum (ok : Ok n g fs l X c) {elts : List Expr} {kk : Nat} {tpos : Pos} {e : Expr} {ie : E} {x : Str} {p : Pos} (hx : isGl c x = true) (ex : x = ("enumerate" : Str)) (hn : noStar e = true) (he : PE X e (tE X.K n g fs l ie W)) :
    PI X (.Tuple elts kk tpos) (.Call (.Name x p) [e] [] pos) (iS X.K n g fs l (.enum (.of ie)) W) := by
  subst ex
  refine (pi_enumK (ok.gl hx).1 (ok.fc.free _ (by decide)) (pa_cons he pa_nil (star_cons hn)) hn).mono fun σ H R ⟨Z, env, M, Pd, xq, R0, er, w, k, kx⟩ => ?_
  simp only [wpSrc] at w
  refine ⟨Z, env, M, _, xq, R0, er, w, fun Z1 M1 H1 d v s1 R1 r1 w1 => ?_, kx⟩
  obtain ⟨items, ei, w1⟩ := opt_elim w1
  obtain ⟨sk, ev, hat⟩ := items_at R1 r1 ei
  obtain ⟨vs, h1, _⟩ := hat Z1 M1 H1 (Same.refl _) R1 gd_now
  exact ⟨sk, vs, by rw [ev], h1, k Z1 M1 H1 _ _ _ s1 R1 (srcj_enum hat) w1⟩
theorem s_zip (ok : Ok n g fs l X c) {tg e f : Expr} {ie jf : E} {x : Str} {p : Pos} (hx : isGl c x = true) (ex : x = ("zip" : Str)) (hn : noStar e = true) (hn2 : noStar f = true) (he : PE X e (tE X.K n g fs l ie W)) (hf : PE X f (tE X.K n g fs l jf W)) :
    PI X tg (.Call (.Name x p) [e, f] [] pos) (iS X.K n g fs l (.zip ie jf) W) := by
  subst ex
  refine (pi_zipK (ok.gl hx).1 (ok.fc.free _ (by decide)) (pa_cons he (pa_cons hf pa_nil (star_cons hn2)) (star_cons hn)) hn hn2).mono fun σ H R ⟨Z, env, M, Pd, xq, R0, er, w, k, kx⟩ => ?_
  simp only [wpSrc] at w
  refine ⟨Z, env, M, _, xq, R0, er, w, fun Z1 M1 H1 d v s1 R1 r1 w1 => ⟨Z1, env, M1, _, xq, R1, er.mono s1, w1, fun Z2 M2 H2 d2 v2 s2 R2 r2 w2 => ?_, kx.mono s1⟩, kx⟩
  obtain ⟨xs, ei, w2⟩ := opt_elim w2
  obtain ⟨ys, ej, w2⟩ := opt_elim w2
  obtain ⟨k1, ev, hat⟩ := items_at R2 (Rep.mono _ _ s2 d r1) ei
  obtain ⟨k2, ev2, hat2⟩ := items_at R2 r2 ej
  obtain ⟨vs, h1, _⟩ := hat Z2 M2 H2 (Same.refl _) R2 gd_now
  obtain ⟨us, h2, _⟩ := hat2 Z2 M2 H2 (Same.refl _) R2 gd_now
  exact ⟨k1, k2, vs, us, by rw [ev, ev2], h1, h2, k Z2 M2 H2 _ _ _ (s1.trans s2) R2 (srcj_zip hat hat2) w2⟩
theorem s_ez (ok : Ok n g fs l X c) {elts : List Expr} {kk : Nat} {tpos : Pos} {e f : Expr} {ie jf : E} {x y : Str} {p p2 pos2 : Pos} (hx : isGl c x = true) (ex : x = ("enumerate" : Str)) (hy : isGl c y = true) (ey : y = ("zip" : Str)) (hn : noStar e = true) (hn2 : noStar f = true)
    (he : PE X e (tE X.K n g fs l ie W)) (hf : PE X f (tE X.K n g fs l jf W)) : PI X (.Tuple elts kk tpos) (.Call (.Name x p) [.Call (.Name y p2) [e, f] [] pos2] [] pos) (iS X.K n g fs l (.enum (.zip ie jf)) W) := by
  subst ex ey
  refine (pi_ezK (ok.gl hx).1 (ok.fc.free _ (by decide)) (ok.gl hy).1 (ok.fc.free _ (by decide)) (pa_cons he (pa_cons hf pa_nil (star_cons hn2)) (star_cons hn)) hn hn2).mono fun σ H R ⟨Z, env, M, Pd, xq, R0, er, w, k, kx⟩ => ?_
  simp only [wpSrc] at w
  refine ⟨Z, env, M, _, xq, R0, er, w, fun Z1 M1 H1 d v s1 R1 r1 w1 => ⟨Z1, env, M1, _, xq, R1, er.mono s1, w1, fun Z2 M2 H2 d2 v2 s2 R2 r2 w2 => ?_, kx.mono s1⟩, kx⟩
  obtain ⟨xs, ei, w2⟩ := opt_elim w2
  obtain ⟨ys, ej, w2⟩ := opt_elim w2
  obtain ⟨k1, ev, hat⟩ := items_at R2 (Rep.mono _ _ s2 d r1) ei
  obtain ⟨k2, ev2, hat2⟩ := items_at R2 r2 ej
  obtain ⟨vs, h1, _⟩ := hat Z2 M2 H2 (Same.refl _) R2 gd_now
  obtain ⟨us, h2, _⟩ := hat2 Z2 M2 H2 (Same.refl _) R2 gd_now
  exact ⟨k1, k2, vs, us, by rw [ev, ev2], h1, h2, k Z2 M2 H2 _ _ _ (s1.trans s2) R2 (srcj_ez hat hat2) w2⟩
end
end Lw

set_option Elab.async false
set_option linter.all false
set_option maxRecDepth 100000
set_option maxHeartbeats 1000000
/-! Lw15: targets; list comprehensions. -/
namespace Lw
open PySem PySem.Spec PyProof.Rows L2

section
variable {n : Nm} {g : G} {fs : Nat → Option Fd} {l : Nat} {X : Cx} {c : Cc} {W : WX} {pos : Pos}
/-! ### targets -/
theorem _root_.L2.PG.mono {e : Expr} {t t' : TG} (h : PG X e t) (k : ∀ v σ H Q, t' v σ H Q → t v σ H Q) : PG X e t' := ⟨fun pins s σ H v u Q I r q => h.run pins s σ H v u Q I r (k v σ H Q q)⟩
theorem _root_.L2.PGs.mono {e : List Expr} {t t' : TGs} (h : PGs X e t) (k : ∀ v σ H Q, t' v σ H Q → t v σ H Q) : PGs X e t' := ⟨fun pins s σ H v u Q I r q => h.run pins s σ H v u Q I r (k v σ H Q q)⟩
theorem g_name (ok : Ok n g fs l X c) {i : Nat} {x : Str} (h : isOwn c i x = true) : PG X (.Name x pos) (tG X.K n g fs l (.name i)) := (ok.tgt h).mono fun v σ H Q ⟨Z, env, M, d, Pd, xq, R, er, r, w, k⟩ => by
  simp only [wpTg] at w
  refine k Z M H _ _ (Same.refl Z) R (er.set r) (by rw [List.length_set]) (fun j hj => ?_) w
  have hj : j ∉ [i] := hj
  rw [List.getElem?_set_ne (fun e => hj (by simp [e]))]
theorem g_nil : PGs X [] (tGs X.K n g fs l .nil) := pgs_nil.mono fun v σ H Q ⟨Z, env, M, ds, Pd, xq, R, er, r, w, k⟩ => by
  simp only [wpTgs] at w
  obtain ⟨e, w⟩ := w
  subst e
  unfold Reps at r
  exact ⟨r, k Z M H env σ (Same.refl Z) R er rfl (fun _ _ => rfl) w⟩
theorem each_cons {e : Expr} {es : List Expr} {env : Env} (h : noStar e = true) : assignEach (e :: es) env = (false, assign e env) :: assignEach es env := by
  cases e <;> first | rfl | cases h
theorem g_cons {e : Expr} {es : List Expr} {t : Tg} {ts : Tgs} (hn : noStar e = true) (h1 : PG X e (tG X.K n g fs l t)) (h2 : PGs X es (tGs X.K n g fs l ts)) : PGs X (e :: es) (tGs X.K n g fs l (.cons t ts)) :=
  (pgs_cons h1 h2 (by rw [each_cons hn]; rfl)).mono fun v σ H Q ⟨Z, env, M, ds, Pd, xq, R, er, r, w, k⟩ => by
    simp only [wpTgs] at w
    cases ds with
    | nil => exact w.elim
    | cons d ds =>
      unfold Reps at r
      obtain ⟨u, us, ev, r1, r2⟩ := r
      refine ⟨u, us, ev, Z, env, M, d, _, xq, R, er, r1, w, fun Z1 M1 H1 env1 σ1 s1 R1 er1 l1 k1 w1 => ⟨Z1, env1, M1, ds, Pd, xq, R1, er1, Reps.mono _ _ s1 _ r2, w1, fun Z2 M2 H2 env2 σ2 s2 R2 er2 l2 k2 w2 => ?_⟩⟩
      refine k Z2 M2 H2 env2 σ2 (s1.trans s2) R2 er2 (l2.trans l1) (fun j hj => ?_) w2
      have hj : j ∉ tgN t ++ tgsN ts := hj
      rw [k2 j fun q => hj (List.mem_append_right _ q), k1 j fun q => hj (List.mem_append_left _ q)]
theorem each_len {env : Env} : ∀ {es : List Expr}, (assignEach es env).length = es.length
  | [] => rfl
  | e :: es => by
    have ih := @each_len env es
    cases e <;> show (assignEach es env).length + 1 = es.length + 1 <;> rw [ih]
theorem each_plain {env : Env} : ∀ {es : List Expr}, noStars es = true → (assignEach es env).findIdx? (·.1) = none
  | [], _ => rfl
  | e :: es, h => by
    have h2 : (noStar e && noStars es) = true := h
    rw [Bool.and_eq_true] at h2
    rw [each_cons h2.1, List.findIdx?_cons]
    simp [each_plain h2.2]
def tgsL : Tgs → Nat
  | .nil => 0
  | .cons _ ts => tgsL ts + 1
theorem tgsFit_len : ∀ {ts : Tgs} {ds : List D}, tgsFit ts ds = true → ds.length = tgsL ts
  | .nil, [], _ => rfl
  | .nil, _ :: _, h => by
    unfold tgsFit at h
    cases h
  | .cons _ ts, [], h => by
    unfold tgsFit at h
    cases h
  | .cons _ ts, d :: ds, h => by
    unfold tgsFit at h
    show ds.length + 1 = tgsL ts + 1
    rw [tgsFit_len h]
theorem g_tup (ok : Ok n g fs l X c) {es : List Expr} {kk : Nat} {ts : Tgs} (hn : noStars es = true) (hl : tgsL ts = es.length) (h : PGs X es (tGs X.K n g fs l ts)) : PG X (.Tuple es kk pos) (tG X.K n g fs l (.tup ts)) :=
  (pg_tup ok.calm h each_len (each_plain hn)).mono fun v σ H Q ⟨Z, env, M, d, Pd, xq, R, er, r, w, k⟩ => by
    simp only [wpTg] at w
    cases d with
    | tup ds =>
      obtain ⟨hfit, w⟩ := w
      have vw := r.view R
      obtain ⟨a, vs, ev, h1, h2⟩ := vw
      exact ⟨a, vs, ev, R.T h1, by rw [h2.length, tgsFit_len hfit, hl], Z, env, M, ds, Pd, xq, R, er, h2, w, k⟩
    | _ => exact w.elim
/-! o[i] = v -/
def rPut (K : PySem.W.Frag) (n : Nm) : TSet := fun o i v H Q => ∃ Z M d e w M3, Rel K n Z M H ∧ Rep K n Z d o ∧ Rep K n Z e i ∧ Rep K n Z w v ∧ putIdx M d e w = some M3 ∧ ∀ H', Rel K n Z M3 H' → Q H'
theorem putK_ne {ws : List (Key × V)} {w : Key × V} {k : Key} {v : V} (h : w.1 ≠ k) : L2.putK (w :: ws) k v = w :: L2.putK ws k v := by
  unfold L2.putK
  rw [List.any_cons, decide_eq_false h, Bool.false_or]
  split
  · rw [List.map_cons, if_neg h]
  · rfl
theorem putK_eq {ws : List (Key × V)} {u v : V} {k : Key} (h : ∀ p ∈ ws, p.1 ≠ k) : L2.putK ((k, u) :: ws) k v = (k, v) :: ws := by
  unfold L2.putK
  rw [if_pos (by rw [List.any_cons, decide_eq_true rfl, Bool.true_or]), List.map_cons, if_pos rfl]
  congr 1
  have e : ws.map (fun kv => if kv.1 = k then (kv.1, v) else kv) = ws.map id := List.map_congr_left fun p hp => if_neg (h p hp)
  rw [e, List.map_id]
theorem putK_kvs {Z : Hp} {K : PySem.W.Frag} {k : DK} {d : D} {v : V} (r : Rep K n Z d v) : ∀ {ks : List DK} {ds : List D} {ws : List (Key × V)}, ks.Nodup → ws.map (·.1) = ks.map DK.key → Reps K n Z ds (ws.map (·.2)) →
    (L2.putK ws k.key v).map (·.1) = (putK ks ds k d).1.map DK.key ∧ Reps K n Z (putK ks ds k d).2 ((L2.putK ws k.key v).map (·.2)) := by
  intro ks
  induction ks with
  | nil =>
    intro ds ws nd h1 h2
    have e : ws = [] := by
      cases ws with
      | nil => rfl
      | cons w ws => cases h1
    subst e
    have e2 : ds = [] := by
      cases ds with
      | nil => rfl
      | cons d ds =>
        unfold Reps at h2
        obtain ⟨u, us, q, _⟩ := h2
        cases q
    subst e2
    exact ⟨rfl, Reps.one r⟩
  | cons q ks ih =>
    intro ds ws nd h1 h2
    cases ws with
    | nil => cases h1
    | cons w ws =>
      obtain ⟨wk, wv⟩ := w
      injection h1 with e1 e2
      have e1 : wk = q.key := e1
      subst e1
      cases ds with
      | nil =>
        unfold Reps at h2
        cases h2
      | cons d0 ds =>
        unfold Reps at h2
        obtain ⟨u, us, q2, r1, r2⟩ := h2
        injection q2 with e3 e4
        have e3 : wv = u := e3
        subst e3 e4
        obtain ⟨nd1, nd2⟩ := List.nodup_cons.mp nd
        obtain ⟨i1, i2⟩ := ih nd2 e2 r2
        by_cases hq : q = k
        · subst hq
          have hw : ∀ p ∈ ws, p.1 ≠ q.key := fun p hp z => nd1 (by
            have m1 : p.1 ∈ ws.map (·.1) := List.mem_map_of_mem hp
            rw [e2, z] at m1
            obtain ⟨q2, m2, m3⟩ := List.mem_map.mp m1
            rw [← DK.key_inj m3]
            exact m2)
          unfold putK
          rw [if_pos rfl, putK_eq hw]
          refine ⟨?_, Reps.cons r r2⟩
          show q.key :: ws.map (·.1) = q.key :: ks.map DK.key
          rw [e2]
        · have hq2 : q.key ≠ k.key := fun z => hq (DK.key_inj z)
          unfold putK
          rw [if_neg hq, putK_ne hq2]
          refine ⟨?_, Reps.cons r1 i2⟩
          show q.key :: (L2.putK ws k.key v).map (·.1) = q.key :: (putK ks ds k d).1.map DK.key
          rw [i1]
theorem set_put (hu : X.A.units + 1 < cLine) : PSet X (rPut X.K n) := by
  intro pins s σ H o i v ov iv u Q I ro ri rv ⟨Z, M, d, e, w, M3, R, r1, r2, r3, ep, k⟩
  unfold putIdx at ep
  split at ep
  · rename_i a
    have eo : o = .ref a := by
      unfold Rep at r1
      exact r1
    split at ep
    · rename_i xs j em
      obtain ⟨q, eq, e3⟩ := Option.map_eq_some_iff.mp ep
      subst e3
      obtain ⟨hz, vs, h1, h2⟩ := R.may a _ em
      have ei : i = .int j := r2.view R
      refine set_list pins s σ H o i v ov iv u Q I ro ri rv ⟨a, vs, j, q, eo, ei, h1, by rw [h2.length]; exact eq, k _ (R.put hz ⟨_, upd_same, h2.set q r3⟩)⟩
    · rename_i ks ds em
      obtain ⟨q, eq, ep⟩ := Option.bind_eq_some_iff.mp ep
      split at ep
      · rename_i hl
        cases ep
        obtain ⟨hz, ws, h1, h2, h3⟩ := R.may a _ em
        have hlen : ws.length = ks.length := by
          have := congrArg List.length h2
          simpa using this
        have ei := keyF_view (H := H) r2 eq
        obtain ⟨p1, p2⟩ := putK_kvs r3 (k := q) hl.2 h2 h3
        refine set_dict hu pins s σ H o i v ov iv u Q I ro ri rv ⟨a, _, eo, ?_, k _ (R.put hz ⟨_, upd_same, p1, p2⟩)⟩
        rw [ei]
        exact DPut.k h1 (by rw [hlen]; exact hl.1)
      · cases ep
    · cases ep
  · cases ep
theorem g_idx (ok : Ok n g fs l X c) {o i : Expr} {io ii : E} (hn : notSlice i = true) (ho : PE X o (tE X.K n g fs l io W)) (hi : PE X i (tE X.K n g fs l ii W)) : PG X (.Subscript o i pos) (tG X.K n g fs l (.idx io ii)) :=
  (pg_sub ho hi (set_put (n := n) ok.hu1) (fun v => by cases i <;> first | rfl | cases hn)).mono fun v σ H Q ⟨Z, env, M, d, Pd, xq, R, er, r, w, k⟩ => by
    simp only [wpTg] at w
    refine ⟨Z, env, M, _, _, R, er, w, fun Z1 M1 H1 x vx s1 R1 r1 w1 => ⟨Z1, env, M1, _, _, R1, er.mono s1, w1, fun Z2 M2 H2 y vy s2 R2 r2 w2 => ?_, fun _ _ _ _ _ _ q => q.elim⟩, fun _ _ _ _ _ _ q => q.elim⟩
    obtain ⟨M3, e3, w2⟩ := opt_elim w2
    exact ⟨Z2, M2, x, y, d, M3, R2, Rep.mono _ _ s2 x r1, r2, Rep.mono _ _ (s1.trans s2) d r, e3, fun H3 R3 => k Z2 M3 H3 env σ (s1.trans s2) R3 (er.mono (s1.trans s2)) rfl (fun _ _ => rfl) w2⟩
/-! o.f = v -/
theorem setF_ws {K : PySem.W.Frag} {Z : Hp} (inj : ∀ i j, n.nm i = n.nm j → i = j) {f : Nat} {d : D} {v : V} (r : Rep K n Z d v) : ∀ {fl : List Nat} {ds : List D} {ws : List (Str × V)}, ws.map (·.1) = fl.map n.nm → Reps K n Z ds (ws.map (·.2)) →
    (putF (n.nm f) v ws).map (·.1) = (setF fl ds f d).1.map n.nm ∧ Reps K n Z (setF fl ds f d).2 ((putF (n.nm f) v ws).map (·.2)) := by
  intro fl
  induction fl with
  | nil =>
    intro ds ws h1 h2
    have e : ws = [] := by
      cases ws with
      | nil => rfl
      | cons w ws => cases h1
    subst e
    have e2 : ds = [] := by
      cases ds with
      | nil => rfl
      | cons d ds =>
        unfold Reps at h2
        obtain ⟨u, us, q, _⟩ := h2
        cases q
    subst e2
    exact ⟨rfl, Reps.one r⟩
  | cons q fl ih =>
    intro ds ws h1 h2
    cases ws with
    | nil => cases h1
    | cons w ws =>
      obtain ⟨wk, wv⟩ := w
      injection h1 with e1 e2
      have e1 : wk = n.nm q := e1
      subst e1
      cases ds with
      | nil =>
        unfold Reps at h2
        cases h2
      | cons d0 ds =>
        unfold Reps at h2
        obtain ⟨u, us, q2, r1, r2⟩ := h2
        injection q2 with e3 e4
        have e3 : wv = u := e3
        subst e3 e4
        obtain ⟨i1, i2⟩ := ih e2 r2
        by_cases hq : q = f
        · subst hq
          unfold setF putF
          rw [if_pos rfl, if_pos rfl]
          refine ⟨?_, Reps.cons r r2⟩
          show n.nm q :: ws.map (·.1) = n.nm q :: fl.map n.nm
          rw [e2]
        · have hq2 : n.nm q ≠ n.nm f := fun z => hq (inj _ _ z)
          unfold setF putF
          rw [if_neg hq, if_neg hq2]
          refine ⟨?_, Reps.cons r1 i2⟩
          show n.nm q :: (putF (n.nm f) v ws).map (·.1) = n.nm q :: (setF fl ds f d).1.map n.nm
          rw [i1]
/-- the store of a field -/
theorem put_fld (ok : Ok n g fs l X c) {pins : List (Addr × Obj)} {σ : L2.St} {H : Hp} {s : Shared} {Z : Hp} {M M3 : Mem} {o d : D} {x v : V} {ov u : Value} {f : Nat} {A : Around} {E : Value → Shared → Prop} {Q : Unit → Shared → Prop} (I : Inv X pins σ H s) (R : Rel X.K n Z M H) (ro : Rep X.K n Z o x) (rd : Rep X.K n Z d v) (rx : RelV x ov) (rv : RelV v u) (e : putFld g M o f d = some M3)
    (h : ∀ s' H', Inv X pins σ H' s' → Rel X.K n Z M3 H' → Q () s') : wpAny (model X.prog X.w) A (setAttr ov (n.nm f) u) Q E s := by
  unfold putFld at e
  split at e
  · rename_i a
    have ex : x = .ref a := by
      unfold Rep at ro
      exact ro
    subst ex
    have eo : ov = .ref a := rx
    subst eo
    split at e
    · rename_i cl fl vs em
      split at e
      · rename_i hc
        cases e
        obtain ⟨hz, dx, ws, h1, h2, h3⟩ := R.may a _ em
        obtain ⟨hcl, hna⟩ := ok.fc.cls cl f hc.1
        have hlen : ws.length = fl.length := by
          have := congrArg List.length h2
          simpa using this
        obtain ⟨p1, p2⟩ := setF_ws ok.fc.inj rd (f := f) h2 h3
        exact setattr_ok I h1 hcl hna (by rw [hlen]; exact hc.2) rv fun s' I' => h s' _ I' (R.put hz ⟨dx, _, upd_same, p1, p2⟩)
      · cases e
    · cases e
  · cases e
theorem g_fld (ok : Ok n g fs l X c) {o : Expr} {a : Str} {io : E} {f : Nat} (ea : a = n.nm f) (ho : PE X o (tE X.K n g fs l io W)) : PG X (.Attribute o a pos) (tG X.K n g fs l (.fld io f)) := by
  subst ea
  refine ⟨fun pins s σ H v u Q I rv ⟨Z, env, M, d, Pd, xq, R, er, r, w, k⟩ => ?_⟩
  simp only [wpTg] at w
  show wpAny _ _ (do
    let ov ← holding [u] (eval o X.env)
    standAt pos.atName
    holding [u, ov] (setAttr ov (n.nm f) u)
    release [u, ov] []) _ _ _
  refine wpAny_bind (wpAny_holding (thn (ho.run pins s σ H (fun x H1 => ∃ Z1 M1 dx, Same Z Z1 ∧ Rel X.K n Z1 M1 H1 ∧ Rep X.K n Z1 dx x ∧ opt (putFld g M1 dx f d) fun M2 => Pd env M2) I ⟨Z, env, M, _, _, R, er, w, fun Z1 M1 H1 x vx s1 R1 r1 w1 => ⟨Z1, M1, x, s1, R1, r1, w1⟩, fun _ _ _ _ _ _ q => q.elim⟩) fun ov s1 ⟨x, H1, I1, rx, Z1, M1, dx, z1, R1, r1, w1⟩ => ?_))
  obtain ⟨M3, e3, w1⟩ := opt_elim w1
  refine wpAny_bind (wpAny_standAt (wpAny_bind (wpAny_holding ?_)))
  exact put_fld ok I1 R1 r1 (Rep.mono _ _ z1 d r) rx rv e3 fun s2 H2 I2 R2 => wpAny_release ⟨σ, H2, I2, k Z1 M3 H2 env σ z1 R2 (er.mono z1) rfl (fun _ _ => rfl) w1⟩
end
end Lw

set_option Elab.async false
set_option linter.all false
set_option maxRecDepth 100000
set_option maxHeartbeats 1000000
/-! Lw16: list comprehensions. -/
namespace Lw
open PySem PySem.Spec PyProof.Rows L2

/-- no exception is wished for -/
abbrev W0 : WX := fun _ _ _ _ => False
section
variable {n : Nm} {g : G} {fs : Nat → Option Fd} {l : Nat} {X : Cx} {c : Cc} {W : WX} {pos : Pos}
theorem rel_keep {sc : Scope} : ∀ {names : List (Str × NameKind)} {x : Str}, names.lookup x = some .free →
    (names.map fun (n, k) => if (k == NameKind.free && sc.kind == .function && sc.names.lookup n == some .cell) then (n, NameKind.cell) else (n, k)).lookup x = some .free ∨
    (names.map fun (n, k) => if (k == NameKind.free && sc.kind == .function && sc.names.lookup n == some .cell) then (n, NameKind.cell) else (n, k)).lookup x = some .cell
  | [], _, h => by simp at h
  | (y, k) :: r, x, h => by
    rw [List.map_cons]
    rw [List.lookup_cons] at h
    cases q : x == y with
    | true =>
      rw [q] at h
      cases h
      by_cases z : (NameKind.free == NameKind.free && sc.kind == .function && sc.names.lookup y == some .cell) = true
      · refine .inr ?_
        dsimp only
        rw [if_pos z, List.lookup_cons, q]
      · refine .inl ?_
        dsimp only
        rw [if_neg z, List.lookup_cons, q]
    | false =>
      rw [q] at h
      have ih := rel_keep (sc := sc) h
      dsimp only
      by_cases z : (k == NameKind.free && sc.kind == .function && sc.names.lookup y == some .cell) = true
      · rw [if_pos z, List.lookup_cons, q]
        exact ih
      · rw [if_neg z, List.lookup_cons, q]
        exact ih
/-- where a comprehension's block stands -/
theorem Ok.blk (ok : Ok n g fs l X c) {scope : Scope} {own : List (Str × Nat)} (hb : blkC c.N c.sc scope own = true) (s : Shared) (H : Hp) (C : Addr) (cl : List (Str × Addr)) (fp : List Addr) :
    Ok n g fs l (X.blk s H scope (compEnvC scope cl C X.env) fp) ⟨c.N, scope⟩ := by
  have keep : ∀ x k, k ≠ .free → scope.names.lookup x = some k → (compEnvC scope cl C X.env).scope.names.lookup x = some k := fun x k hk h => lookup_relS_keep (sc := X.env.scope) hk h
  refine ⟨ok.fc, ok.N, ok.nd, ok.calm, ok.room, fun x k h hk => ?_, fun x k h hk => ?_, fun x k h hk => ?_, fun x h => ?_, ok.fns⟩
  · rcases hk with rfl | rfl | rfl
    · exact .inl (keep x _ (by simp) h)
    · exact .inr (.inl (keep x _ (by simp) h))
    · rcases rel_keep (sc := X.env.scope) h with q | q
      · exact .inr (.inr q)
      · exact .inr (.inl q)
  · rcases hk with rfl | rfl
    · exact ⟨.inl (keep x _ (by simp) h), .inr (keep x _ (by simp) h)⟩
    · refine ⟨.inr (keep x _ (by simp) h), .inl ?_⟩
      show (scope.names.lookup x == some .cell) = true
      have h : scope.names.lookup x = some .cell := h
      rw [h]
      rfl
  · rcases hk with rfl | rfl
    · exact .inl (keep x _ (by simp) h)
    · rcases rel_keep (sc := X.env.scope) h with q | q
      · exact .inr q
      · exact .inl q
  · exact keep x _ (by simp) h
theorem Ok.blkOk (ok : Ok n g fs l X c) {scope : Scope} {own : List (Str × Nat)} (hb : blkC c.N c.sc scope own = true) : BlkOk X.N X.env.scope scope own := by
  have b := blkOk_by hb
  rw [ok.N]
  exact ⟨b.kind, b.uniq, b.ix, fun y hy e => (b.free y hy e).elim (fun q => ok.cap _ _ q (.inl rfl)) fun q => ok.cap _ _ q (.inr rfl), b.own⟩
theorem takes0 {s : Shared} {H : Hp} {scope : Scope} {cenv : Env} {fp : List Addr} : Takes (X.blk s H scope cenv fp) W0 := by
  intro u s' ⟨a, B, sI, pins, σ, H, cls, d, _, _, _, _, _, _, _, _, q⟩
  exact q.elim
theorem wipe_in {σ : L2.St} {i : Nat} : ∀ {vs : List Nat}, i ∈ vs → i < σ.length → (wipe σ vs)[i]? = some none
  | [], h, _ => by cases h
  | v :: vs, h, hl => by
    unfold wipe
    by_cases e : v = i
    · subst e
      rw [List.getElem?_set_self (by rw [wipe_length]; exact hl)]
    · rw [List.getElem?_set_ne e]
      exact wipe_in ((List.mem_cons.mp h).resolve_left fun q => e q.symm) hl
theorem wipe_same {σ σ' : L2.St} {vs ns : List Nat} (hl : σ'.length = (wipe σ vs).length) (hs : ∀ i, i ∉ ns → σ'[i]? = (wipe σ vs)[i]?) (hn : ∀ i ∈ ns, i ∈ vs) : wipe σ' vs = wipe σ vs := by
  apply List.ext_getElem?
  intro i
  by_cases h : i ∈ vs
  · by_cases hi : i < σ.length
    · rw [wipe_in h hi, wipe_in h (by rw [hl, wipe_length]; exact hi)]
    · rw [List.getElem?_eq_none (by rw [wipe_length, hl, wipe_length]; omega), List.getElem?_eq_none (by rw [wipe_length]; omega)]
  · rw [wipe_out h, hs i fun q => h (hn i q)]
theorem t_none {X : Cx} : PTs X [] (tTo X.K n g fs l .none W) := ⟨fun pins s σ H Q I ⟨Z, env, M, Qd, xq, R, er, w, k, kx⟩ => pts_nil.run pins s σ H Q I (by
  simp only [wpTO] at w
  exact k Z M H true (Same.refl Z) R w)⟩
theorem t_some {X : Cx} {e : Expr} {t : T} (h : PT X e (tT X.K n g fs l t W)) : PTs X [e] (tTo X.K n g fs l (.some t) W) := ⟨fun pins s σ H Q I ⟨Z, env, M, Qd, xq, R, er, w, k, kx⟩ => (pts_one h).run pins s σ H Q I (by
  simp only [wpTO] at w
  exact ⟨Z, env, M, Qd, xq, R, er, w, k, kx⟩)⟩
/-- the list that was being made is made -/
theorem made_lst {K : PySem.W.Frag} {Z0 Z H : Hp} {M : Mem} {Qd : DK1} {Q : VK} (R : Rel K n Z M H) (s : Same Z0 Z) (k : REnd K n Z0 Qd Q) {m : Bool} {ds : List D} {vs : List V} {p : Addr} (hz : Z0 p = none) (hp : Z p = some (mkg (.lst vs)))
    (r : Reps K n Z ds vs) (h : fin m (.lst ds) M Qd) : Q (.ref p) H := by
  have hH := R.guarded hp
  cases m with
  | false =>
    have R2 := R.made hp
    exact k _ _ _ (.lst ds) (.ref p) (same_guard s hz) R2 (rep_lst upd_same (Reps.monoU K n (sameU_mkg hp) ds r)) h
  | true =>
    have ro : RepO K n Z H p (.lst ds) := ⟨vs, hH, r⟩
    exact k _ _ _ (.loc p) (.ref p) (same_hdel s hz) (R.madeMut hp ro) rep_loc (h p (R.not_mk hp))
/-- the turns of a comprehension -/
theorem lc_turns {K : PySem.W.Frag} {src : Src} {tg : Tg} {ot : Ot} {ie : E} {own : List Nat} {m : Bool} {σ : L2.St} {H : Hp} {Q : VK} (hn : ∀ i ∈ tgN tg, i ∈ own) (h : tE K n g fs l (.lc m own src tg ot ie) W σ H Q) :
    tLc (iS K n g fs l src W) (tG K n g fs l tg) (tTo K n g fs l ot W0) (tE K n g fs l ie W0) own σ H Q := by
  obtain ⟨Z, env, M, Qd, xq, R, er, w, k, kx⟩ := h
  simp only [wpE] at w
  refine ⟨Z, env, M, _, xq, R, er, w, fun Z1 M1 H1 items gd J s1 R1 sj w1 => ?_, kx⟩
  intro D hD
  obtain ⟨hz1, hm1⟩ := R1.fresh hD
  have s2 : Same Z1 (upd Z1 D (mkg (.lst []))) := same_upd hz1
  refine ⟨fun i q H2 => q + i = items.length ∧ ∃ Z2 M2 acc us, Same Z1 Z2 ∧ Z2 D = some (mkg (.lst us)) ∧ Rel K n Z2 M2 H2 ∧ Reps K n Z2 acc us ∧
    lcLoop gd (fun d M2 k => wpTg g (wpF g fs l) tg d (wipeE env own) M2 (fun env' M3 => wpTO g (wpF g fs l) ot env' M3 (fun z M4 => if z = true then wpE g (wpF g fs l) ie env' M4 (fun y M5 => k (some y) M5) (fun _ _ => False) else k none M4) (fun _ _ => False)) (fun _ _ => False))
      (fun acc M2 => fin m (.lst acc) M2 Qd) (items.drop i) acc M2, ⟨items.length, rfl, _, M1, [], [], s2, upd_same, R1.guard hD, Reps.nil, w1⟩, ?_⟩
  rintro i q H2 ⟨hq, Z2, M2, acc, us, s3, g2, R2, r2, w2⟩
  have hH2 := R2.guarded g2
  cases hd : items[i]? with
  | none =>
    have hle : items.length ≤ i := List.getElem?_eq_none_iff.mp hd
    have hi : items.length = i := by omega
    have hdrop : items.drop i = [] := List.drop_of_length_le hle
    rw [hdrop] at w2
    obtain ⟨hg, w2⟩ := w2
    exact .inl ⟨(sj i Z2 M2 H2 s3 R2 hg).2 hi, made_lst R2 s3 (k.mono s1) hz1 g2 r2 w2⟩
  | some d =>
    have hi : i < items.length := by
      rcases Nat.lt_or_ge i items.length with z | z
      · exact z
      · rw [List.getElem?_eq_none z] at hd
        cases hd
    have hdrop : items.drop i = d :: items.drop (i + 1) := by
      rw [List.drop_eq_getElem_cons hi]
      rw [List.getElem?_eq_getElem hi] at hd
      cases hd
      rfl
    rw [hdrop] at w2
    obtain ⟨hg, w2⟩ := w2
    obtain ⟨hgo, hy⟩ := (sj i Z2 M2 H2 s3 R2 hg).1 d hd
    refine .inr ⟨hgo, fun H3 => (q - 1) + (i + 1) = items.length ∧ _, fun H3 hN => ⟨q - 1, by omega, hN⟩, fun x H3 hyl => ?_⟩
    obtain ⟨Z3, s4, R3, rx⟩ := hy x H3 hyl
    refine ⟨Z3, wipeE env own, M2, d, _, _, R3, ERel.wipe (er.mono ((s1.trans s3).trans s4)) own, rx, w2, fun Z4 M4 H4 env4 σ4 s5 R4 er4 l4 k4 w4 => ⟨wipe_same l4 k4 hn, Z4, env4, M4, _, _, R4, er4, w4, fun Z5 M5 H5 b s6 R5 w5 => ?_, fun _ _ _ _ _ _ z => z.elim⟩⟩
    have g5 : Z5 D = some (mkg (.lst us)) := s6 _ _ (s5 _ _ (s4 _ _ g2))
    have s25 : Same Z2 Z5 := (s4.trans s5).trans s6
    cases b with
    | false =>
      dsimp only at w5 ⊢
      rw [if_neg Bool.false_ne_true] at w5 ⊢
      exact ⟨by omega, Z5, M5, acc, us, s3.trans s25, g5, R5, Reps.mono _ _ s25 _ r2, w5⟩
    | true =>
      dsimp only at w5 ⊢
      rw [if_pos rfl] at w5 ⊢
      refine ⟨Z5, env4, M5, _, _, R5, er4.mono s6, w5, fun Z6 M6 H6 y v s7 R6 ry w6 => ?_, fun _ _ _ _ _ _ z => z.elim⟩
      have g6 : Z6 D = some (mkg (.lst us)) := s7 _ _ g5
      have s26 : Same Z2 Z6 := s25.trans s7
      have hlen := r2.length
      refine ⟨us, R6.guarded g6, by rw [hlen]; exact w6.1, by omega, _, M6, acc ++ [y], us ++ [v], same_guard (s3.trans s26) hz1, upd_same, R6.reguard g6, ?_, w6.2⟩
      exact Reps.monoU _ _ (sameU_mkg g6) _ ((Reps.mono _ _ s26 _ r2).append (Reps.one ry))
def ownP (c : Cc) (own : List Nat) : List (Str × Nat) := own.map fun i => (c.N[i]?.getD Str.empty, i)
theorem ownP_snd (c : Cc) (own : List Nat) : (ownP c own).map (·.2) = own := by
  unfold ownP
  rw [List.map_map]
  exact List.map_id _
theorem fold_of {e : Expr} (h : notSet e = true) {env : Env} : ∀ x, foldedSetIterable e env x = pure x := by
  intro x
  cases e <;> first | rfl | cases h
theorem c_lc (ok : Ok n g fs l X c) {scope : Scope} {own : List Nat} {elt tg iter : Expr} {ifs : List Expr} {ie : E} {src : Src} {it : Tg} {ot : Ot} {m : Bool} (hb : blkC c.N c.sc scope (ownP c own) = true) (ht : ∀ i ∈ tgN it, i ∈ own) (hf : notSet iter = true)
    (hi : PI X tg iter (iS X.K n g fs l src W)) (hg : ∀ (s : Shared) (H : Hp) (C : Addr) (cl : List (Str × Addr)) (fp : List Addr), PG (X.blk s H scope (compEnvC scope cl C X.env) fp) tg (tG X.K n g fs l it))
    (ho : ∀ (s : Shared) (H : Hp) (C : Addr) (cl : List (Str × Addr)) (fp : List Addr), PTs (X.blk s H scope (compEnvC scope cl C X.env) fp) ifs (tTo X.K n g fs l ot W0))
    (he : ∀ (s : Shared) (H : Hp) (C : Addr) (cl : List (Str × Addr)) (fp : List Addr), PE (X.blk s H scope (compEnvC scope cl C X.env) fp) elt (tE X.K n g fs l ie W0)) :
    PE X (.ListComp elt [⟨tg, iter, ifs, 0⟩] scope pos) (tE X.K n g fs l (.lc m own src it ot ie) W) :=
  (pe_lc ok.calm ok.nd hi (ok.blkOk hb) hg ho he (fold_of hf)).mono fun σ H Q h => by
    rw [ownP_snd]
    exact lc_turns ht h
end
end Lw

set_option Elab.async false
set_option linter.all false
set_option maxRecDepth 100000
set_option maxHeartbeats 2000000
/-! Lw17: the small language against the text: expressions. -/
namespace Lw
open PySem PySem.Spec PyProof.Rows L2

section
variable {n : Nm} {g : G} {fs : Nat → Option Fd} {l : Nat} {X : Cx} {c : Cc} {W : WX} {pos : Pos}
/-! ### is True, is False -/
def isBd : D → Bool → Bool
  | .bl k, b => k == b
  | _, _ => false
def tIsB (ta : TE) (b : Bool) : TE := fun σ H Q => ta σ H fun x H1 => Q (.bl (decide (x = .bl b))) H1
theorem beq_bl {a b : Bool} : (Value.bool a == Value.bool b) = decide (V.bl a = V.bl b) := by
  cases a <;> cases b <;> rfl
theorem pc_isB {a : Expr} {ta : TE} {b : Bool} {j : Nat} {p2 : Pos} (ha : PE X a ta) : PC X .Is a (.Constant (.bool b) j p2) (tIsB ta b) := by
  refine ⟨fun pins s σ H Q I h => ?_⟩
  refine thn (ha.run pins s σ H _ I h) fun v s1 ⟨x, H1, I1, r1, q1⟩ => ?_
  refine Constant_bool ?_
  have fin : ∀ (z : Bool), z = decide (x = V.bl b) → EP X pins σ Q (.bool z) s1 := fun z e => ⟨.bl _, H1, I1, by rw [e]; rfl, q1⟩
  cases x with
  | non =>
    have e : v = .none := r1
    subst e
    exact PySem.wpAny_is_plain rfl (fin _ rfl)
  | bl k =>
    have e : v = .bool k := r1
    subst e
    exact PySem.wpAny_is_plain rfl (fin _ beq_bl)
  | int i =>
    obtain ⟨t, e⟩ := r1
    subst e
    exact PySem.wpAny_is_plain rfl (fin _ rfl)
  | str i =>
    obtain ⟨t, e⟩ := r1
    subst e
    exact PySem.wpAny_is_plain rfl (fin _ rfl)
  | byt i =>
    obtain ⟨t, e⟩ := r1
    subst e
    exact PySem.wpAny_is_plain rfl (fin _ rfl)
  | flt i =>
    obtain ⟨t, e⟩ := r1
    subst e
    exact PySem.wpAny_is_plain rfl (fin _ rfl)
  | ref a =>
    have e : v = .ref a := r1
    subst e
    exact PySem.wpAny_is_plain rfl (fin _ rfl)
  | ty T =>
    have e : v = .type T := r1
    subst e
    exact PySem.wpAny_is_plain rfl (fin _ rfl)
theorem isB_iff {K : PySem.W.Frag} {Z : Hp} {d : D} {v : V} {b : Bool} (r : Rep K n Z d v) : decide (v = .bl b) = isBd d b := by
  cases d with
  | non =>
    unfold Rep at r
    subst r
    rfl
  | bl k =>
    unfold Rep at r
    subst r
    cases k <;> cases b <;> rfl
  | int k =>
    unfold Rep at r
    subst r
    rfl
  | str k =>
    unfold Rep at r
    subst r
    rfl
  | tup ds =>
    unfold Rep at r
    obtain ⟨a, vs, e, _⟩ := r
    subst e
    rfl
  | lst ds =>
    unfold Rep at r
    obtain ⟨a, vs, e, _⟩ := r
    subst e
    rfl
  | ins c fl ds =>
    unfold Rep at r
    obtain ⟨a, vs, _, e, _⟩ := r
    subst e
    rfl
  | dct ks ds =>
    unfold Rep at r
    obtain ⟨a, vs, e, _⟩ := r
    subst e
    rfl
  | loc a =>
    unfold Rep at r
    subst r
    rfl
  | scr ns =>
    unfold Rep at r
    obtain ⟨a, e, _⟩ := r
    subst e
    rfl
theorem isB_core {K : PySem.W.Frag} {ia : E} {b : Bool} {σ : L2.St} {H Z : Hp} {Q : VK} {env : DEnv} {M : Mem} {Qd : DK1} {xq : XK1} (R : Rel K n Z M H) (er : ERel K n Z env σ) (w : wpE g (wpF g fs l) (.isB ia b) env M Qd xq)
    (k : BlE K n Z Qd Q) (kx : RXn K n Z xq (WE W σ)) : tIsB (tE K n g fs l ia W) b σ H Q := by
  simp only [wpE] at w
  refine ⟨Z, env, M, _, xq, R, er, w, fun Z1 M1 H1 d v s1 R1 r1 w1 => ?_, kx⟩
  show Q (.bl (decide (v = .bl b))) H1
  rw [isB_iff r1]
  have q := k Z1 M1 H1 (isBd d b) s1 R1
  cases d <;> exact q w1
theorem c_isB {a : Expr} {ia : E} {b : Bool} {j : Nat} {p2 : Pos} (ha : PE X a (tE X.K n g fs l ia W)) : PE X (.Compare a [.Is] [.Constant (.bool b) j p2] pos) (tE X.K n g fs l (.isB ia b) W) :=
  (pe_cmp (pc_isB ha)).mono fun σ H Q ⟨Z, env, M, Qd, xq, R, er, w, k, kx⟩ => isB_core R er w k.bl kx
theorem c_isBT {a : Expr} {ia : E} {b : Bool} {j : Nat} {p2 : Pos} (ha : PE X a (tE X.K n g fs l ia W)) : PT X (.Compare a [.Is] [.Constant (.bool b) j p2] pos) (tT X.K n g fs l (.val (.isB ia b)) W) :=
  (pt_cmp (pc_isB ha)).mono fun σ H Q ⟨Z, env, M, Qd, xq, R, er, w, k, kx⟩ => isB_core R er (by simpa only [wpT] using w) k.bl kx
end

/-! ### the check -/
def boolOps : BoolOp → List Expr → Pos → Option (Expr × Expr)
  | op, [x, y], _ => some (x, y)
  | op, x :: y :: z :: r, p => some (x, .BoolOp op (y :: z :: r) p)
  | _, _, _ => none
section
variable (n : Nm) (g : G) (fs : Nat → Option Fd)
mutual
def chkE : E → Cc → Expr → Bool
  | .var i, c, e => match e with
    | .Name x _ => isVar c i x
    | _ => false
  | .cst d, _, e => match e with
    | .Constant k _ _ => cstOk d k
    | _ => false
  | .glb i, c, e => match e with
    | .Name x _ => isGl c x && (decide (x = n.cn i) && (g.con i).isSome)
    | _ => false
  | .fld ir f, c, e => match e with
    | .Attribute v a _ => notSuper v && (decide (a = n.nm f) && chkE ir c v)
    | _ => false
  | .bin _ op a b, c, e => match e with
    | .BinOp x o y _ => decide (o = bopO op) && (chkE a c x && chkE b c y)
    | _ => false
  | .neg a, c, e => match e with
    | .UnaryOp .USub x _ => chkE a c x
    | _ => false
  | .cmp op a b, c, e => match e with
    | .Compare x [o] [y] _ => decide (o = copO op) && (notSet y && (chkE a c x && chkE b c y))
    | _ => false
  | .chn o1 o2 a b d, c, e => match e with
    | .Compare x [p, q] [y, z] _ => decide (p = copO o1) && (decide (q = copO o2) && (notSet z && (chkE a c x && (chkE b c y && chkE d c z))))
    | _ => false
  | .isN a, c, e => match e with
    | .Compare x [.Is] [.Constant .none _ _] _ => chkE a c x
    | _ => false
  | .notN a, c, e => match e with
    | .Compare x [.IsNot] [.Constant .none _ _] _ => chkE a c x
    | _ => false
  | .isB a b, c, e => match e with
    | .Compare x [.Is] [.Constant (.bool k) _ _] _ => k == b && chkE a c x
    | _ => false
  | .and a b, c, e => match e with
    | .BoolOp .And es p => match boolOps .And es p with
      | some (x, y) => chkE a c x && chkE b c y
      | none => false
    | _ => false
  | .or a b, c, e => match e with
    | .BoolOp .Or es p => match boolOps .Or es p with
      | some (x, y) => chkE a c x && chkE b c y
      | none => false
    | _ => false
  | .not a, c, e => match e with
    | .UnaryOp .Not x _ => chkE a c x
    | _ => false
  | .ite t a b, c, e => match e with
    | .IfExp x y z _ => chkT t c x && (chkE a c y && chkE b c z)
    | _ => false
  | .tup is, c, e => match e with
    | .Tuple es _ _ => chkEs is c es
    | _ => false
  | .lst _ is, c, e => match e with
    | .List es _ => chkEs is c es
    | _ => false
  | .dct _ ks vs, c, e => match e with
    | .Dict [] [] _ => isNil ks && isNil vs
    | .Dict [some k] [v] _ => chkEs ks c [k] && chkEs vs c [v]
    | _ => false
  | .call f is, c, e => match e with
    | .Call (.Name x _) args [] _ => isGl c x && (decide (n.fn f = (x, none)) && ((fs f).isSome && chkEs is c args))
    | _ => false
  | .make k _ is, c, e => match e with
    | .Call (.Name x _) args [] _ => isGl c x && (decide (x = n.nm k) && ((match g.ini k with
      | some i => (fs i).isSome
      | none => false) && chkEs is c args))
    | _ => false
  | .meth m o is, c, e => match e with
    | .Call (.Attribute x a apos) args [] pos => notSuper x && ((apos.endLine == pos.line) && (decide (a = n.nm m) && (decide (args.length < 30) && (chkE o c x && chkEs is c args))))
    | _ => false
  | .bi _ b is, c, e => match e with
    | .Call (.Name x _) (a :: as) [] _ => isGl c x && (decide (x = biN b) && (match b with
      | .isi ts => (match ts, as with
        | [t], [.Name y _] => isGl c y && (decide (y = ityNm n t) && (ityOk g t && chkEs is c [a]))
        | _, _ => false)
      | .lrng1 => (match as, a with
        | [], .Call (.Name y _) args [] _ => isGl c y && (decide (y = ("range" : Str)) && (decide (args.length = 1) && chkEs is c args))
        | _, _ => false)
      | .lrng2 => (match as, a with
        | [], .Call (.Name y _) args [] _ => isGl c y && (decide (y = ("range" : Str)) && (decide (args.length = 2) && chkEs is c args))
        | _, _ => false)
      | b => biP b && chkEs is c (a :: as)))
    | _ => false
  | .bm _ b o is, c, e => match e with
    | .Call (.Attribute x a apos) args [] pos => notSuper x && ((apos.endLine == pos.line) && (decide (a = bmN b) && (decide (args.length < 30) && (chkE o c x && chkEs is c args))))
    | _ => false
  | .idx a b, c, e => match e with
    | .Subscript x y _ => notSlice y && (chkE a c x && chkE b c y)
    | _ => false
  | .sl _ a lo hi, c, e => match e with
    | .Subscript x (.Slice p q none _) _ => chkE a c x && (chkOe lo c p && chkOe hi c q)
    | _ => false
  | .rev _ a, c, e => match e with
    | .Subscript x (.Slice none none (some (.UnaryOp .USub (.Constant (.int 1) _ _) _)) _) _ => chkE a c x
    | _ => false
  | .lc _ own src tg t elt, c, e => match e with
    | .ListComp x [⟨tgt, iter, ifs, 0⟩] scope _ => blkC c.N c.sc scope (ownP c own) && ((tgN tg).all (fun i => decide (i ∈ own)) && (notSet iter && (chkSrc src c tgt iter && (chkTg tg ⟨c.N, scope⟩ tgt && (chkOt t ⟨c.N, scope⟩ ifs && chkE elt ⟨c.N, scope⟩ x)))))
    | _ => false
  | .dc _ _ _ _ _ _ _, _, _ => false
  | .frz a, c, e => chkE a c e
def chkT : T → Cc → Expr → Bool
  | .val a, c, e => (byTruth e || isCmp a) && chkE a c e
  | .and a b, c, e => match e with
    | .BoolOp .And es p => match boolOps .And es p with
      | some (x, y) => chkT a c x && chkT b c y
      | none => false
    | _ => false
  | .or a b, c, e => match e with
    | .BoolOp .Or es p => match boolOps .Or es p with
      | some (x, y) => chkT a c x && chkT b c y
      | none => false
    | _ => false
  | .not a, c, e => match e with
    | .UnaryOp .Not x _ => chkT a c x
    | _ => false
def chkOt : Ot → Cc → List Expr → Bool
  | .none, _, es => es.isEmpty
  | .some t, c, es => match es with
    | [e] => chkT t c e
    | _ => false
def chkEs : Es → Cc → List Expr → Bool
  | .nil, _, es => es.isEmpty
  | .cons a is, c, es => match es with
    | e :: es => noStar e && (chkE a c e && chkEs is c es)
    | [] => false
def chkOe : Oe → Cc → Option Expr → Bool
  | .none, _, e => e.isNone
  | .some a, c, e => match e with
    | some e => chkE a c e
    | none => false
def chkSrc : Src → Cc → Expr → Expr → Bool
  | .of a, c, _, e => chkE a c e
  | .rng1 a, c, _, e => match e with
    | .Call (.Name x _) [y] [] _ => isGl c x && (decide (x = ("range" : Str)) && (noStar y && chkE a c y))
    | _ => false
  | .rng2 a b, c, _, e => match e with
    | .Call (.Name x _) [y, z] [] _ => isGl c x && (decide (x = ("range" : Str)) && (noStar y && (noStar z && (chkE a c y && chkE b c z))))
    | _ => false
  | .rng3 a b d, c, _, e => match e with
    | .Call (.Name x _) [y, z, u] [] _ => isGl c x && (decide (x = ("range" : Str)) && (noStar y && (noStar z && (noStar u && (chkE a c y && (chkE b c z && chkE d c u))))))
    | _ => false
  | .enum s, c, tg, e => isTup tg && match e with
    | .Call (.Name x _) [y] [] _ => isGl c x && (decide (x = ("enumerate" : Str)) && (noStar y && (match s with
      | .of a => chkE a c y
      | .zip a b => (match y with
        | .Call (.Name z _) [p, q] [] _ => isGl c z && (decide (z = ("zip" : Str)) && (noStar p && (noStar q && (chkE a c p && chkE b c q))))
        | _ => false)
      | _ => false)))
    | _ => false
  | .zip a b, c, _, e => match e with
    | .Call (.Name x _) [y, z] [] _ => isGl c x && (decide (x = ("zip" : Str)) && (noStar y && (noStar z && (chkE a c y && chkE b c z))))
    | _ => false
def chkTg : Tg → Cc → Expr → Bool
  | .name i, c, e => match e with
    | .Name x _ => isOwn c i x
    | _ => false
  | .fld o f, c, e => match e with
    | .Attribute v a _ => decide (a = n.nm f) && chkE o c v
    | _ => false
  | .idx o i, c, e => match e with
    | .Subscript x y _ => notSlice y && (chkE o c x && chkE i c y)
    | _ => false
  | .tup ts, c, e => match e with
    | .Tuple es _ _ => decide (tgsL ts = es.length) && chkTgs ts c es
    | _ => false
def chkTgs : Tgs → Cc → List Expr → Bool
  | .nil, _, es => es.isEmpty
  | .cons t ts, c, es => match es with
    | e :: es => noStar e && (chkTg t c e && chkTgs ts c es)
    | [] => false
def isCmp : E → Bool
  | .cmp _ _ _ => true
  | .chn _ _ _ _ _ => true
  | .isN _ => true
  | .notN _ => true
  | .isB _ _ => true
  | _ => false
def isNil : Es → Bool
  | .nil => true
  | _ => false
def isTup : Expr → Bool
  | .Tuple _ _ _ => true
  | _ => false
end
end
end Lw

set_option Elab.async false
set_option linter.all false
set_option maxRecDepth 100000
set_option maxHeartbeats 4000000
/-! Lw18: what passes the check keeps its reading: expressions. -/
namespace Lw
open PySem PySem.Spec PyProof.Rows L2

theorem boolOps_some {op : BoolOp} {es : List Expr} {p : Pos} {x y : Expr} (h : boolOps op es p = some (x, y)) : (es = [x, y]) ∨ ∃ b c r, es = x :: b :: c :: r ∧ y = .BoolOp op (b :: c :: r) p := by
  unfold boolOps at h
  split at h
  · cases h
    exact .inl rfl
  · cases h
    exact .inr ⟨_, _, _, rfl, rfl⟩
  · cases h
section
variable {n : Nm} {g : G} {fs : Nat → Option Fd} {l : Nat}
mutual
theorem sE : ∀ (ir : E) (c : Cc) (X : Cx) (W : WX) (e : Expr), Ok n g fs l X c → Takes X W → chkE n g fs ir c e = true → PE X e (tE X.K n g fs l ir W)
  | .var i, c, X, W, e, ok, tk, h => by
    simp only [chkE] at h
    split at h
    · exact c_var ok h
    · cases h
  | .cst d, c, X, W, e, ok, tk, h => by
    simp only [chkE] at h
    split at h
    · exact c_cst h
    · cases h
  | .glb i, c, X, W, e, ok, tk, h => by
    simp only [chkE] at h
    split at h
    · simp only [Bool.and_eq_true, decide_eq_true_eq] at h
      exact c_glb ok h.1 h.2.1 h.2.2
    · cases h
  | .fld ir f, c, X, W, e, ok, tk, h => by
    simp only [chkE] at h
    split at h
    · simp only [Bool.and_eq_true, decide_eq_true_eq] at h
      exact c_fld ok h.1 h.2.1 (sE ir c X W _ ok tk h.2.2)
    · cases h
  | .bin m op a b, c, X, W, e, ok, tk, h => by
    simp only [chkE] at h
    split at h
    · simp only [Bool.and_eq_true, decide_eq_true_eq] at h
      obtain ⟨h1, h2, h3⟩ := h
      subst h1
      exact c_bin (sE a c X W _ ok tk h2) (sE b c X W _ ok tk h3)
    · cases h
  | .neg a, c, X, W, e, ok, tk, h => by
    simp only [chkE] at h
    split at h
    · exact c_neg (sE a c X W _ ok tk h)
    · cases h
  | .cmp op a b, c, X, W, e, ok, tk, h => by
    simp only [chkE] at h
    split at h
    · simp only [Bool.and_eq_true, decide_eq_true_eq] at h
      obtain ⟨h1, h2, h3, h4⟩ := h
      subst h1
      exact c_cmp ok h2 (sE a c X W _ ok tk h3) (sE b c X W _ ok tk h4)
    · cases h
  | .chn o1 o2 a b d, c, X, W, e, ok, tk, h => by
    simp only [chkE] at h
    split at h
    · simp only [Bool.and_eq_true, decide_eq_true_eq] at h
      obtain ⟨h1, h2, h3, h4, h5, h6⟩ := h
      subst h1 h2
      exact c_chn ok (marks_of (op := copO o2) h3) (sE a c X W _ ok tk h4) (sE b c X W _ ok tk h5) (sE d c X W _ ok tk h6)
    · cases h
  | .isN a, c, X, W, e, ok, tk, h => by
    simp only [chkE] at h
    split at h
    · exact c_isN (sE a c X W _ ok tk h)
    · cases h
  | .notN a, c, X, W, e, ok, tk, h => by
    simp only [chkE] at h
    split at h
    · exact c_notN (sE a c X W _ ok tk h)
    · cases h
  | .isB a b, c, X, W, e, ok, tk, h => by
    simp only [chkE] at h
    split at h
    · simp only [Bool.and_eq_true, beq_iff_eq] at h
      obtain ⟨h1, h2⟩ := h
      subst h1
      exact c_isB (sE a c X W _ ok tk h2)
    · cases h
  | .and a b, c, X, W, e, ok, tk, h => by
    simp only [chkE] at h
    split at h
    · split at h
      · rename_i hb
        simp only [Bool.and_eq_true] at h
        have ha := sE a c X W _ ok tk h.1
        have hb2 := sE b c X W _ ok tk h.2
        rcases boolOps_some hb with e1 | ⟨p, q, r, e1, e2⟩
        · subst e1
          exact c_and ha (pe_one hb2)
        · subst e1 e2
          exact c_and ha hb2
      · cases h
    · cases h
  | .or a b, c, X, W, e, ok, tk, h => by
    simp only [chkE] at h
    split at h
    · split at h
      · rename_i hb
        simp only [Bool.and_eq_true] at h
        have ha := sE a c X W _ ok tk h.1
        have hb2 := sE b c X W _ ok tk h.2
        rcases boolOps_some hb with e1 | ⟨p, q, r, e1, e2⟩
        · subst e1
          exact c_or ha (pe_one hb2)
        · subst e1 e2
          exact c_or ha hb2
      · cases h
    · cases h
  | .not a, c, X, W, e, ok, tk, h => by
    simp only [chkE] at h
    split at h
    · exact c_not (sE a c X W _ ok tk h)
    · cases h
  | .ite t a b, c, X, W, e, ok, tk, h => by
    simp only [chkE] at h
    split at h
    · simp only [Bool.and_eq_true] at h
      exact c_ite (sT t c X W _ ok tk h.1) (sE a c X W _ ok tk h.2.1) (sE b c X W _ ok tk h.2.2)
    · cases h
  | .tup is, c, X, W, e, ok, tk, h => by
    simp only [chkE] at h
    split at h
    · exact c_tup (sEs is c X W _ ok tk h).1
    · cases h
  | .lst m is, c, X, W, e, ok, tk, h => by
    simp only [chkE] at h
    split at h
    · exact c_lst (sEs is c X W _ ok tk h).1
    · cases h
  | .dct m ks vs, c, X, W, e, ok, tk, h => by
    simp only [chkE] at h
    split at h
    · simp only [Bool.and_eq_true] at h
      cases ks with
      | nil =>
        cases vs with
        | nil => exact c_dct0
        | cons v vs =>
          have := h.2
          simp [isNil] at this
      | cons k ks =>
        have := h.1
        simp [isNil] at this
    · simp only [Bool.and_eq_true] at h
      cases ks with
      | nil =>
        have := h.1
        simp [chkEs] at this
      | cons k ks =>
        cases vs with
        | nil =>
          have := h.2
          simp [chkEs] at this
        | cons v vs =>
          have h1 := h.1
          have h2 := h.2
          simp only [chkEs, Bool.and_eq_true] at h1 h2
          cases ks with
          | cons k2 ks =>
            have := h1.2.2
            simp [chkEs] at this
          | nil =>
            cases vs with
            | cons v2 vs =>
              have := h2.2.2
              simp [chkEs] at this
            | nil => exact c_dct1 (sE k c X W _ ok tk h1.2.1) (sE v c X W _ ok tk h2.2.1)
    · cases h
  | .call f is, c, X, W, e, ok, tk, h => by
    simp only [chkE] at h
    split at h
    · simp only [Bool.and_eq_true, decide_eq_true_eq] at h
      obtain ⟨h1, h2, h3, h4⟩ := h
      obtain ⟨p1, p2, p3⟩ := sEs is c X W _ ok tk h4
      exact c_call ok tk h1 h2 h3 p2 p3 p1
    · cases h
  | .make k fz is, c, X, W, e, ok, tk, h => by
    simp only [chkE] at h
    split at h
    · simp only [Bool.and_eq_true, decide_eq_true_eq] at h
      obtain ⟨h1, h2, h3, h4⟩ := h
      obtain ⟨p1, p2, p3⟩ := sEs is c X W _ ok tk h4
      split at h3
      · rename_i i hi
        exact c_make ok tk h1 h2 hi h3 p2 p3 p1
      · cases h3
    · cases h
  | .meth m o is, c, X, W, e, ok, tk, h => by
    simp only [chkE] at h
    split at h
    · simp only [Bool.and_eq_true, decide_eq_true_eq] at h
      obtain ⟨h1, h2, h3, h4, h5, h6⟩ := h
      obtain ⟨p1, p2, p3⟩ := sEs is c X W _ ok tk h6
      exact c_meth ok tk h1 h2 h3 p2 h4 p3 (sE o c X W _ ok tk h5) p1
    · cases h
  | .bi m b is, c, X, W, e, ok, tk, h => by
    simp only [chkE] at h
    split at h
    · simp only [Bool.and_eq_true, decide_eq_true_eq] at h
      obtain ⟨h1, h2, h3⟩ := h
      split at h3
      · split at h3
        · simp only [Bool.and_eq_true, decide_eq_true_eq] at h3
          obtain ⟨q1, q2, q3, q4⟩ := h3
          cases is with
          | nil => simp [chkEs] at q4
          | cons a is =>
            simp only [chkEs, Bool.and_eq_true] at q4
            cases is with
            | cons a2 is =>
              have := q4.2.2
              simp [chkEs] at this
            | nil => exact c_isi ok h1 h2 q1 q2 q3 q4.1 (sE a c X W _ ok tk q4.2.1)
        · cases h3
      · split at h3
        · simp only [Bool.and_eq_true, decide_eq_true_eq] at h3
          obtain ⟨q1, q2, q3, q4⟩ := h3
          rename_i args _
          cases is with
          | nil =>
            cases args with
            | nil => cases q3
            | cons a args => simp [chkEs] at q4
          | cons a is =>
            cases args with
            | nil => cases q3
            | cons y args =>
              simp only [chkEs, Bool.and_eq_true] at q4
              cases args with
              | cons y2 args => simp at q3
              | nil =>
                cases is with
                | cons a2 is =>
                  have := q4.2.2
                  simp [chkEs] at this
                | nil => exact c_lrng1 ok h1 h2 q1 q2 q4.1 (sE a c X W _ ok tk q4.2.1)
        · cases h3
      · split at h3
        · simp only [Bool.and_eq_true, decide_eq_true_eq] at h3
          obtain ⟨q1, q2, q3, q4⟩ := h3
          rename_i args _
          cases is with
          | nil =>
            cases args with
            | nil => cases q3
            | cons a args => simp [chkEs] at q4
          | cons a is =>
            cases args with
            | nil => cases q3
            | cons y args =>
              simp only [chkEs, Bool.and_eq_true] at q4
              obtain ⟨q5, q6, q7⟩ := q4
              cases is with
              | nil =>
                cases args with
                | nil => simp at q3
                | cons y2 args => simp [chkEs] at q7
              | cons a2 is =>
                cases args with
                | nil => simp [chkEs] at q7
                | cons y2 args =>
                  simp only [chkEs, Bool.and_eq_true] at q7
                  cases args with
                  | cons y3 args => simp at q3
                  | nil =>
                    cases is with
                    | cons a3 is =>
                      have := q7.2.2
                      simp [chkEs] at this
                    | nil => exact c_lrng2 ok h1 h2 q1 q2 q5 q7.1 (sE a c X W _ ok tk q6) (sE a2 c X W _ ok tk q7.2.1)
        · cases h3
      · simp only [Bool.and_eq_true] at h3
        obtain ⟨p1, p2, p3⟩ := sEs is c X W _ ok tk h3.2
        exact c_bi ok h3.1 h1 h2 p2 p1
    · cases h
  | .bm m b o is, c, X, W, e, ok, tk, h => by
    simp only [chkE] at h
    split at h
    · simp only [Bool.and_eq_true, decide_eq_true_eq] at h
      obtain ⟨h1, h2, h3, h4, h5, h6⟩ := h
      rename_i x a apos args pos
      obtain ⟨p1, p2, p3⟩ := sEs is c X W _ ok tk h6
      have ho := sE o c X W _ ok tk h5
      cases args with
      | nil =>
        have e := p3 rfl
        subst e
        exact c_bm0 ok h1 h2 h3 ho
      | cons y ys => exact c_bm ok h1 h2 h3 p2 h4 ho p1
    · cases h
  | .idx a b, c, X, W, e, ok, tk, h => by
    simp only [chkE] at h
    split at h
    · simp only [Bool.and_eq_true] at h
      exact c_idx ok h.1 (sE a c X W _ ok tk h.2.1) (sE b c X W _ ok tk h.2.2)
    · cases h
  | .sl m a lo hi, c, X, W, e, ok, tk, h => by
    simp only [chkE] at h
    split at h
    · simp only [Bool.and_eq_true] at h
      exact c_sl (sE a c X W _ ok tk h.1) (sOe lo c X W _ ok tk h.2.1) (sOe hi c X W _ ok tk h.2.2)
    · cases h
  | .rev m a, c, X, W, e, ok, tk, h => by
    simp only [chkE] at h
    split at h
    · exact c_rev (sE a c X W _ ok tk h)
    · cases h
  | .lc m own src tg t elt, c, X, W, e, ok, tk, h => by
    simp only [chkE] at h
    split at h
    · simp only [Bool.and_eq_true, List.all_eq_true, decide_eq_true_eq] at h
      obtain ⟨h1, h2, h3, h4, h5, h6, h7⟩ := h
      exact c_lc ok h1 h2 h3 (sSrc src c X W _ _ ok tk h4) (fun s H C cl fp => sTg tg _ _ W0 _ (ok.blk h1 s H C cl fp) takes0 h5) (fun s H C cl fp => sOt t _ _ W0 _ (ok.blk h1 s H C cl fp) takes0 h6)
        (fun s H C cl fp => sE elt _ _ W0 _ (ok.blk h1 s H C cl fp) takes0 h7)
    · cases h
  | .dc m own src tg t k v, c, X, W, e, ok, tk, h => by
    simp only [chkE] at h
    cases h
  | .frz a, c, X, W, e, ok, tk, h => by
    simp only [chkE] at h
    exact c_frz (sE a c X W _ ok tk h)
theorem sT : ∀ (ir : T) (c : Cc) (X : Cx) (W : WX) (e : Expr), Ok n g fs l X c → Takes X W → chkT n g fs ir c e = true → PT X e (tT X.K n g fs l ir W)
  | .val a, c, X, W, e, ok, tk, h => by
    simp only [chkT, Bool.and_eq_true, Bool.or_eq_true] at h
    obtain ⟨h1, h2⟩ := h
    rcases h1 with h1 | h1
    · exact c_val h1 (sE a c X W _ ok tk h2)
    · cases a with
      | cmp op a b =>
        simp only [chkE] at h2
        split at h2
        · simp only [Bool.and_eq_true, decide_eq_true_eq] at h2
          obtain ⟨h1, h2, h3, h4⟩ := h2
          subst h1
          exact c_cmpT ok h2 (sE a c X W _ ok tk h3) (sE b c X W _ ok tk h4)
        · cases h2
      | chn o1 o2 a b d =>
        simp only [chkE] at h2
        split at h2
        · simp only [Bool.and_eq_true, decide_eq_true_eq] at h2
          obtain ⟨h1, h2, h3, h4, h5, h6⟩ := h2
          subst h1 h2
          exact c_chnT ok (marks_of (op := copO o2) h3) (sE a c X W _ ok tk h4) (sE b c X W _ ok tk h5) (sE d c X W _ ok tk h6)
        · cases h2
      | isN a =>
        simp only [chkE] at h2
        split at h2
        · exact c_isNT (sE a c X W _ ok tk h2)
        · cases h2
      | notN a =>
        simp only [chkE] at h2
        split at h2
        · exact c_notNT (sE a c X W _ ok tk h2)
        · cases h2
      | isB a b =>
        simp only [chkE] at h2
        split at h2
        · simp only [Bool.and_eq_true, beq_iff_eq] at h2
          obtain ⟨h1, h2⟩ := h2
          subst h1
          exact c_isBT (sE a c X W _ ok tk h2)
        · cases h2
      | _ => simp [isCmp] at h1
  | .and a b, c, X, W, e, ok, tk, h => by
    simp only [chkT] at h
    split at h
    · split at h
      · rename_i hb
        simp only [Bool.and_eq_true] at h
        have ha := sT a c X W _ ok tk h.1
        have hb2 := sT b c X W _ ok tk h.2
        rcases boolOps_some hb with e1 | ⟨p, q, r, e1, e2⟩
        · subst e1
          exact c_tand ha (pw_and1 hb2)
        · subst e1 e2
          exact c_tand ha (pw_bool hb2)
      · cases h
    · cases h
  | .or a b, c, X, W, e, ok, tk, h => by
    simp only [chkT] at h
    split at h
    · split at h
      · rename_i hb
        simp only [Bool.and_eq_true] at h
        have ha := sT a c X W _ ok tk h.1
        have hb2 := sT b c X W _ ok tk h.2
        rcases boolOps_some hb with e1 | ⟨p, q, r, e1, e2⟩
        · subst e1
          exact c_tor ha (pw_or1 hb2)
        · subst e1 e2
          exact c_tor ha (pw_bool hb2)
      · cases h
    · cases h
  | .not a, c, X, W, e, ok, tk, h => by
    simp only [chkT] at h
    split at h
    · exact c_tnot (sT a c X W _ ok tk h)
    · cases h
theorem sOt : ∀ (ir : Ot) (c : Cc) (X : Cx) (W : WX) (es : List Expr), Ok n g fs l X c → Takes X W → chkOt n g fs ir c es = true → PTs X es (tTo X.K n g fs l ir W)
  | .none, c, X, W, es, ok, tk, h => by
    simp only [chkOt, List.isEmpty_iff] at h
    subst h
    exact t_none
  | .some t, c, X, W, es, ok, tk, h => by
    simp only [chkOt] at h
    split at h
    · exact t_some (sT t c X W _ ok tk h)
    · cases h
theorem sEs : ∀ (ir : Es) (c : Cc) (X : Cx) (W : WX) (es : List Expr), Ok n g fs l X c → Takes X W → chkEs n g fs ir c es = true → PA X es (tA X.K n g fs l ir W) ∧ noStars es = true ∧ (es = [] → ir = .nil)
  | .nil, c, X, W, es, ok, tk, h => by
    simp only [chkEs, List.isEmpty_iff] at h
    subst h
    exact ⟨c_nil, rfl, fun _ => rfl⟩
  | .cons a is, c, X, W, es, ok, tk, h => by
    simp only [chkEs] at h
    split at h
    · simp only [Bool.and_eq_true] at h
      obtain ⟨h1, h2, h3⟩ := h
      obtain ⟨p1, p2, p3⟩ := sEs is c X W _ ok tk h3
      refine ⟨c_cons h1 (sE a c X W _ ok tk h2) p1, ?_, fun q => by cases q⟩
      show (noStar _ && noStars _) = true
      rw [h1, p2]
      rfl
    · cases h
theorem sOe : ∀ (ir : Oe) (c : Cc) (X : Cx) (W : WX) (e : Option Expr), Ok n g fs l X c → Takes X W → chkOe n g fs ir c e = true → PO X e (tPo X.K n g fs l ir W)
  | .none, c, X, W, e, ok, tk, h => by
    simp only [chkOe, Option.isNone_iff_eq_none] at h
    subst h
    exact c_onone
  | .some a, c, X, W, e, ok, tk, h => by
    simp only [chkOe] at h
    split at h
    · exact c_osome (sE a c X W _ ok tk h)
    · cases h
theorem sSrc : ∀ (ir : Src) (c : Cc) (X : Cx) (W : WX) (tg e : Expr), Ok n g fs l X c → Takes X W → chkSrc n g fs ir c tg e = true → PI X tg e (iS X.K n g fs l ir W)
  | .of a, c, X, W, tg, e, ok, tk, h => by
    simp only [chkSrc] at h
    exact s_of (sE a c X W _ ok tk h)
  | .rng1 a, c, X, W, tg, e, ok, tk, h => by
    simp only [chkSrc] at h
    split at h
    · simp only [Bool.and_eq_true, decide_eq_true_eq] at h
      exact s_rng1 ok h.1 h.2.1 h.2.2.1 (sE a c X W _ ok tk h.2.2.2)
    · cases h
  | .rng2 a b, c, X, W, tg, e, ok, tk, h => by
    simp only [chkSrc] at h
    split at h
    · simp only [Bool.and_eq_true, decide_eq_true_eq] at h
      obtain ⟨h1, h2, h3, h4, h5, h6⟩ := h
      exact s_rng2 ok h1 h2 h3 h4 (sE a c X W _ ok tk h5) (sE b c X W _ ok tk h6)
    · cases h
  | .rng3 a b d, c, X, W, tg, e, ok, tk, h => by
    simp only [chkSrc] at h
    split at h
    · simp only [Bool.and_eq_true, decide_eq_true_eq] at h
      obtain ⟨h1, h2, h3, h4, h5, h6, h7, h8⟩ := h
      exact s_rng3 ok h1 h2 h3 h4 h5 (sE a c X W _ ok tk h6) (sE b c X W _ ok tk h7) (sE d c X W _ ok tk h8)
    · cases h
  | .enum (.of a), c, X, W, tg, e, ok, tk, h => by
    simp only [chkSrc, Bool.and_eq_true] at h
    obtain ⟨ht, h⟩ := h
    cases tg with
    | Tuple es k p =>
      split at h
      · simp only [Bool.and_eq_true, decide_eq_true_eq] at h
        exact s_enum ok h.1 h.2.1 h.2.2.1 (sE a c X W _ ok tk h.2.2.2)
      · cases h
    | _ => simp [isTup] at ht
  | .enum (.zip a b), c, X, W, tg, e, ok, tk, h => by
    simp only [chkSrc, Bool.and_eq_true] at h
    obtain ⟨ht, h⟩ := h
    cases tg with
    | Tuple es k p =>
      split at h
      · simp only [Bool.and_eq_true, decide_eq_true_eq] at h
        obtain ⟨h1, h2, h3, h4⟩ := h
        split at h4
        · simp only [Bool.and_eq_true, decide_eq_true_eq] at h4
          obtain ⟨q1, q2, q3, q4, q5, q6⟩ := h4
          exact s_ez ok h1 h2 q1 q2 q3 q4 (sE a c X W _ ok tk q5) (sE b c X W _ ok tk q6)
        · cases h4
      · cases h
    | _ => simp [isTup] at ht
  | .enum (.rng1 _), c, X, W, tg, e, ok, tk, h => by
    simp only [chkSrc, Bool.and_eq_true] at h
    obtain ⟨ht, h⟩ := h
    split at h
    · simp at h
    · cases h
  | .enum (.rng2 _ _), c, X, W, tg, e, ok, tk, h => by
    simp only [chkSrc, Bool.and_eq_true] at h
    obtain ⟨ht, h⟩ := h
    split at h
    · simp at h
    · cases h
  | .enum (.rng3 _ _ _), c, X, W, tg, e, ok, tk, h => by
    simp only [chkSrc, Bool.and_eq_true] at h
    obtain ⟨ht, h⟩ := h
    split at h
    · simp at h
    · cases h
  | .enum (.enum _), c, X, W, tg, e, ok, tk, h => by
    simp only [chkSrc, Bool.and_eq_true] at h
    obtain ⟨ht, h⟩ := h
    split at h
    · simp at h
    · cases h
  | .zip a b, c, X, W, tg, e, ok, tk, h => by
    simp only [chkSrc] at h
    split at h
    · simp only [Bool.and_eq_true, decide_eq_true_eq] at h
      obtain ⟨h1, h2, h3, h4, h5, h6⟩ := h
      exact s_zip ok h1 h2 h3 h4 (sE a c X W _ ok tk h5) (sE b c X W _ ok tk h6)
    · cases h
theorem sTg : ∀ (ir : Tg) (c : Cc) (X : Cx) (W : WX) (e : Expr), Ok n g fs l X c → Takes X W → chkTg n g fs ir c e = true → PG X e (tG X.K n g fs l ir)
  | .name i, c, X, W, e, ok, tk, h => by
    simp only [chkTg] at h
    split at h
    · exact g_name ok h
    · cases h
  | .fld o f, c, X, W, e, ok, tk, h => by
    simp only [chkTg] at h
    split at h
    · simp only [Bool.and_eq_true, decide_eq_true_eq] at h
      exact g_fld (W := W) ok h.1 (sE o c X W _ ok tk h.2)
    · cases h
  | .idx o i, c, X, W, e, ok, tk, h => by
    simp only [chkTg] at h
    split at h
    · simp only [Bool.and_eq_true] at h
      exact g_idx (W := W) ok h.1 (sE o c X W _ ok tk h.2.1) (sE i c X W _ ok tk h.2.2)
    · cases h
  | .tup ts, c, X, W, e, ok, tk, h => by
    simp only [chkTg] at h
    split at h
    · simp only [Bool.and_eq_true, decide_eq_true_eq] at h
      obtain ⟨p1, p2⟩ := sTgs ts c X W _ ok tk h.2
      exact g_tup ok p2 h.1 p1
    · cases h
theorem sTgs : ∀ (ir : Tgs) (c : Cc) (X : Cx) (W : WX) (es : List Expr), Ok n g fs l X c → Takes X W → chkTgs n g fs ir c es = true → PGs X es (tGs X.K n g fs l ir) ∧ noStars es = true
  | .nil, c, X, W, es, ok, tk, h => by
    simp only [chkTgs, List.isEmpty_iff] at h
    subst h
    exact ⟨g_nil, rfl⟩
  | .cons t ts, c, X, W, es, ok, tk, h => by
    simp only [chkTgs] at h
    split at h
    · simp only [Bool.and_eq_true] at h
      obtain ⟨h1, h2, h3⟩ := h
      obtain ⟨p1, p2⟩ := sTgs ts c X W _ ok tk h3
      refine ⟨g_cons h1 (sTg t c X W _ ok tk h2) p1, ?_⟩
      show (noStar _ && noStars _) = true
      rw [h1, p2]
      rfl
    · cases h
end
end
end Lw

set_option Elab.async false
set_option linter.all false
set_option maxRecDepth 100000
set_option maxHeartbeats 2000000
/-! Lw19: statements, form by form. -/
namespace Lw
open PySem PySem.Spec PyProof.Rows L2

section
variable (K : PySem.W.Frag) (n : Nm) (g : G) (fs : Nat → Option Fd) (l : Nat)
structure SEnd (Z : Hp) (P : Post) (D : Ends) (W : WX) : Prop where
  nx : ∀ Z' M' H' env σ, Same Z Z' → Rel K n Z' M' H' → ERel K n Z' env σ → P.nx env M' → D.nx σ H'
  rt : ∀ Z' M' H' d v, Same Z Z' → Rel K n Z' M' H' → Rep K n Z' d v → P.rt d M' → D.rt v H'
  bk : ∀ Z' M' H' env σ, Same Z Z' → Rel K n Z' M' H' → ERel K n Z' env σ → P.bk env M' → D.bk σ H'
  ct : ∀ Z' M' H' env σ, Same Z Z' → Rel K n Z' M' H' → ERel K n Z' env σ → P.ct env M' → D.ct σ H'
  xc : ∀ Z' M' H' env σ x, Same Z Z' → Rel K n Z' M' H' → ERel K n Z' env σ → P.xc x env M' → W (.ref (cad K n x.c)) none σ H'
def tS (s : S) (W : WX) : TS := fun D σ H => ∃ Z env M P, Rel K n Z M H ∧ ERel K n Z env σ ∧ wpS g (wpF g fs l) s env M P ∧ SEnd K n Z P D W
def tSs (s : Ss) (W : WX) : TS := fun D σ H => ∃ Z env M P, Rel K n Z M H ∧ ERel K n Z env σ ∧ wpSs g (wpF g fs l) s env M P ∧ SEnd K n Z P D W
end
/-- where a statement of a def stands -/
structure Sk (n : Nm) (g : G) (fs : Nat → Option Fd) (l : Nat) (X : Cx) (c : Cc) : Prop where
  ok : Ok n g fs l X c
  sc : X.env.scope = c.sc
  kd : c.sc.kind = .function
  hp : PassesOwn (model X.prog X.w) X.A X.env X.xe
  stk : X.stack = X.env :: X.outer
  frm : X.env.frame = some X.env.locals
section
variable {n : Nm} {g : G} {fs : Nat → Option Fd} {l : Nat} {X : Cx} {c : Cc} {W : WX} {pos : Pos}
theorem _root_.L2.PS.mono {e : Stmt} {t t' : TS} (h : PS X e t) (k : ∀ D σ H, t' D σ H → t D σ H) : PS X e t' := ⟨fun pins s σ H D I q => h.run pins s σ H D I (k D σ H q)⟩
theorem _root_.L2.PSs.mono {e : List Stmt} {t t' : TS} (h : PSs X e t) (k : ∀ D σ H, t' D σ H → t D σ H) : PSs X e t' := ⟨fun pins s σ H D I q => h.run pins s σ H D I (k D σ H q)⟩
theorem SEnd.mono {K : PySem.W.Frag} {Z Z1 : Hp} {P : Post} {D : Ends} (s : Same Z Z1) (k : SEnd K n Z P D W) : SEnd K n Z1 P D W where
  nx := fun Z' M' H' env σ s2 R er q => k.nx Z' M' H' env σ (s.trans s2) R er q
  rt := fun Z' M' H' d v s2 R r q => k.rt Z' M' H' d v (s.trans s2) R r q
  bk := fun Z' M' H' env σ s2 R er q => k.bk Z' M' H' env σ (s.trans s2) R er q
  ct := fun Z' M' H' env σ s2 R er q => k.ct Z' M' H' env σ (s.trans s2) R er q
  xc := fun Z' M' H' env σ x s2 R er q => k.xc Z' M' H' env σ x (s.trans s2) R er q
/-- the exceptions of an expression within -/
theorem SEnd.rx {K : PySem.W.Frag} {Z : Hp} {P : Post} {D : Ends} {env : DEnv} {σ : L2.St} (k : SEnd K n Z P D W) (er : ERel K n Z env σ) : RXn K n Z (fun x m => P.xc x env m) (WE W σ) := fun Z' M' H' x s R q => k.xc Z' M' H' env σ x s R (er.mono s) q

/-! ### blocks, small statements -/
theorem s_nil : PSs X [] (tSs X.K n g fs l .nil W) := pss_nil.mono fun D σ H ⟨Z, env, M, P, R, er, w, k⟩ => by
  simp only [wpSs] at w
  exact k.nx Z M H env σ (Same.refl Z) R er w
theorem s_cons {st : Stmt} {sts : List Stmt} {is : S} {iss : Ss} (h1 : PS X st (tS X.K n g fs l is W)) (h2 : PSs X sts (tSs X.K n g fs l iss W)) : PSs X (st :: sts) (tSs X.K n g fs l (.cons is iss) W) :=
  (pss_cons h1 h2).mono fun D σ H ⟨Z, env, M, P, R, er, w, k⟩ => by
    simp only [wpSs] at w
    exact ⟨Z, env, M, _, R, er, w, ⟨fun Z1 M1 H1 env1 σ1 s1 R1 er1 w1 => ⟨Z1, env1, M1, P, R1, er1, w1, k.mono s1⟩, k.rt, k.bk, k.ct, k.xc⟩⟩
theorem s_pass : PS X (.Pass pos) (tS X.K n g fs l .pass W) := ps_pass.mono fun D σ H ⟨Z, env, M, P, R, er, w, k⟩ => by
  simp only [wpS] at w
  exact k.nx Z M H env σ (Same.refl Z) R er w
theorem s_brk : PS X (.Break pos) (tS X.K n g fs l .brk W) := ps_break.mono fun D σ H ⟨Z, env, M, P, R, er, w, k⟩ => by
  simp only [wpS] at w
  exact k.bk Z M H env σ (Same.refl Z) R er w
theorem s_cnt : PS X (.Continue pos) (tS X.K n g fs l .cnt W) := ps_continue.mono fun D σ H ⟨Z, env, M, P, R, er, w, k⟩ => by
  simp only [wpS] at w
  exact k.ct Z M H env σ (Same.refl Z) R er w
theorem s_never {st : Stmt} : PS X st (tS X.K n g fs l .never W) := ps_never.mono fun D σ H ⟨Z, env, M, P, R, er, w, k⟩ => by
  simp only [wpS] at w
theorem delL_rel {K : PySem.W.Frag} {Z H : Hp} : ∀ {xs : List D} {M : Mem}, Rel K n Z M H → Rel K n Z (delL M xs) H
  | [], M, R => R
  | .loc a :: xs, M, R => delL_rel (xs := xs) (M := M.del a) (R.drop a)
  | .non :: xs, M, R => delL_rel (xs := xs) R
  | .bl _ :: xs, M, R => delL_rel (xs := xs) R
  | .int _ :: xs, M, R => delL_rel (xs := xs) R
  | .str _ :: xs, M, R => delL_rel (xs := xs) R
  | .tup _ :: xs, M, R => delL_rel (xs := xs) R
  | .lst _ :: xs, M, R => delL_rel (xs := xs) R
  | .ins _ _ _ :: xs, M, R => delL_rel (xs := xs) R
  | .dct _ _ :: xs, M, R => delL_rel (xs := xs) R
  | .scr _ :: xs, M, R => delL_rel (xs := xs) R
theorem drop_rel {K : PySem.W.Frag} {Z H : Hp} {env : DEnv} : ∀ {dr : List Nat} {M : Mem}, Rel K n Z M H → Rel K n Z (dropE env M dr) H
  | [], M, R => R
  | i :: is, M, R => by
    unfold dropE
    split
    · exact drop_rel (R.drop _)
    · exact drop_rel (delL_rel R)
    · exact drop_rel R
theorem s_ret {e : Expr} {ie : E} {dr : List Nat} (he : PE X e (tE X.K n g fs l ie W)) : PS X (.Return (some e) pos) (tS X.K n g fs l (.ret dr ie) W) := (ps_ret he).mono fun D σ H ⟨Z, env, M, P, R, er, w, k⟩ => by
  simp only [wpS] at w
  exact ⟨Z, env, M, _, _, R, er, w, fun Z1 M1 H1 d v s1 R1 r1 w1 => k.rt Z1 _ H1 d v s1 (drop_rel R1) r1 w1, k.rx er⟩
theorem s_retN {dr : List Nat} : PS X (.Return none pos) (tS X.K n g fs l (.retN dr) W) := ps_retN.mono fun D σ H ⟨Z, env, M, P, R, er, w, k⟩ => by
  simp only [wpS] at w
  exact k.rt Z _ H .non .non (Same.refl Z) (drop_rel R) rep_non w
def notComp : Expr → Bool
  | .ListComp _ _ _ _ => false
  | .SetComp _ _ _ _ => false
  | .DictComp _ _ _ _ _ => false
  | _ => true
theorem noswap {e : Expr} (h : notComp e = true) {t : Option Expr} {k : Nat} {env : Env} : swapsWith e t k env = pure false := by
  cases e <;> first | rfl | cases h
theorem s_exp {e : Expr} {ie : E} (hn : notComp e = true) (he : PE X e (tE X.K n g fs l ie W)) : PS X (.Expr e pos) (tS X.K n g fs l (.exp ie) W) := (ps_expr he (noswap hn)).mono fun D σ H ⟨Z, env, M, P, R, er, w, k⟩ => by
  simp only [wpS] at w
  exact ⟨Z, env, M, _, _, R, er, w, fun Z1 M1 H1 d v s1 R1 r1 w1 => k.nx Z1 M1 H1 env σ s1 R1 (er.mono s1) w1, k.rx er⟩
theorem s_if {t : Expr} {a b : List Stmt} {it : T} {ia ib : Ss} (ht : PT X t (tT X.K n g fs l it W)) (ha : PSs X a (tSs X.K n g fs l ia W)) (hb : PSs X b (tSs X.K n g fs l ib W)) : PS X (.If t a b pos) (tS X.K n g fs l (.ife it ia ib) W) :=
  (ps_if ht ha hb).mono fun D σ H ⟨Z, env, M, P, R, er, w, k⟩ => by
    simp only [wpS] at w
    refine ⟨Z, env, M, _, _, R, er, w, fun Z1 M1 H1 z s1 R1 w1 => ?_, k.rx er⟩
    cases z with
    | true => exact ⟨Z1, env, M1, P, R1, er.mono s1, w1, k.mono s1⟩
    | false => exact ⟨Z1, env, M1, P, R1, er.mono s1, w1, k.mono s1⟩

/-! ### stores -/
/-- a comprehension's own list may be swapped in -/
def swapB (sc : Scope) (value tg : Expr) : Bool := match value, tg with
  | .ListComp _ _ s p, .Name t q => sc.names.lookup t == some .local && q.line == p.line && !(s.names.any fun (m, k) => m == t && (k == .local || k == .cell))
  | _, _ => false
def isLc : Expr → Bool
  | .ListComp _ _ _ _ => true
  | _ => false
theorem swaps_of (sk : Sk n g fs l X c) {value tg : Expr} (h : (notComp value || isLc value) = true) (hs : swapB c.sc value tg = false) {k : Nat} : swapsWithSole [tg] value k X.env = pure false := by
  show swapsWith value (some tg) k X.env = pure false
  have hk : X.env.blockKind = .function := by
    unfold Env.blockKind
    rw [sk.sc, sk.kd] <;> rfl
  cases value with
  | ListComp elt gens scope p =>
    cases tg with
    | Name t q =>
      unfold swapB at hs
      show (pure (X.env.blockKind == .function && X.env.kindOf t == some .local && q.line == p.line && !(scope.names.any fun (m, k) => m == t && (k == .local || k == .cell))) : Sem Bool) = pure false
      rw [hk, show X.env.kindOf t = c.sc.names.lookup t by unfold Env.kindOf; rw [sk.sc]]
      simp only [beq_self_eq_true, Bool.true_and]
      exact congrArg pure hs
    | _ => rfl
  | SetComp elt gens scope p => simp [notComp, isLc] at h
  | DictComp a b gens scope p => simp [notComp, isLc] at h
  | _ => rfl
theorem swaps_to (sk : Sk n g fs l X c) {elt : Expr} {gens : List Comprehension} {scope : Scope} {p q : Pos} {t : Str} (hs : swapB c.sc (.ListComp elt gens scope p) (.Name t q) = true) {k : Nat} : swapsWith (.ListComp elt gens scope p) (some (.Name t q)) k X.env = pure true := by
  have hk : X.env.blockKind = .function := by
    unfold Env.blockKind
    rw [sk.sc, sk.kd] <;> rfl
  unfold swapB at hs
  show (pure (X.env.blockKind == .function && X.env.kindOf t == some .local && q.line == p.line && !(scope.names.any fun (m, k) => m == t && (k == .local || k == .cell))) : Sem Bool) = pure true
  rw [hk, show X.env.kindOf t = c.sc.names.lookup t by unfold Env.kindOf; rw [sk.sc]]
  simp only [beq_self_eq_true, Bool.true_and]
  exact congrArg pure hs
def notNm : Expr → Bool
  | .Name _ _ => false
  | _ => true
/-- no pair of stores is turned round -/
def noPair : Expr → Expr → Bool
  | .Tuple ts _ _, .Tuple vs _ _ => !(ts.length == 2 || ts.length == 3) || (ts.any notNm || vs.all (foldedForSure 8))
  | .List _ _, _ => false
  | _, _ => true
theorem fm_short {α β : Type} {f : α → Option β} : ∀ {xs : List α} {x : α}, x ∈ xs → f x = none → (xs.filterMap f).length < xs.length
  | y :: ys, x, hm, hf => by
    rcases List.mem_cons.mp hm with rfl | hm
    · rw [List.filterMap_cons, hf]
      exact Nat.lt_succ_of_le (List.length_filterMap_le _ _)
    · have := fm_short hm hf
      rw [List.filterMap_cons]
      split
      · simp only [List.length_cons]; omega
      · simp only [List.length_cons]; omega
theorem nopair_of {tg value : Expr} (h : noPair tg value = true) {env : Env} : swappedStores [tg] value env = pure none := by
  cases tg with
  | Tuple ts k p =>
    cases value with
    | Tuple vs k2 p2 =>
      have h2 : (!(ts.length == 2 || ts.length == 3) || (ts.any notNm || vs.all (foldedForSure 8))) = true := h
      unfold swappedStores
      simp only
      split
      · rfl
      · rename_i q1
        have q2 : (!(ts.length == 2 || ts.length == 3)) = false := by
          cases z : (!(ts.length == 2 || ts.length == 3))
          · rfl
          · rw [z] at q1
            simp at q1
        rw [q2, Bool.false_or, Bool.or_eq_true] at h2
        split
        · rfl
        · split
          · rfl
          · rename_i q3
            rcases h2 with h2 | h2
            · exfalso
              apply q3
              rw [Bool.or_eq_true]
              refine .inl (bne_iff_ne.mpr ?_)
              obtain ⟨t, ht, hn⟩ := List.any_eq_true.mp h2
              exact Nat.ne_of_lt (fm_short ht (by cases t <;> first | rfl | cases hn))
            · rw [if_pos h2]
    | _ => rfl
  | List ts p => cases h
  | _ => rfl
theorem asg_mono {K : PySem.W.Frag} {ie : E} {it : Tg} : ∀ D σ H, tS K n g fs l (.set it ie) W D σ H → tAsg (tE K n g fs l ie W) (tG K n g fs l it) D σ H := fun D σ H ⟨Z, env, M, P, R, er, w, k⟩ => by
  simp only [wpS] at w
  exact ⟨Z, env, M, _, _, R, er, w, fun Z1 M1 H1 d v s1 R1 r1 w1 => ⟨Z1, env, M1, d, _, _, R1, er.mono s1, r1, w1, fun Z2 M2 H2 env2 σ2 s2 R2 er2 _ _ w2 => k.nx Z2 M2 H2 env2 σ2 (s1.trans s2) R2 er2 w2⟩, k.rx er⟩
theorem s_set (sk : Sk n g fs l X c) {tg value : Expr} {ie : E} {it : Tg} (hn : noStar tg = true) (hc : (notComp value || isLc value) = true) (hs : swapB c.sc value tg = false) (hp : noPair tg value = true) (he : PE X value (tE X.K n g fs l ie W)) (hg : PG X tg (tG X.K n g fs l it)) :
    PS X (.Assign [tg] value pos) (tS X.K n g fs l (.set it ie) W) := (ps_asg he hg (swaps_of sk hc hs) (nopair_of hp) (by rw [each_cons hn]; rfl)).mono asg_mono
theorem s_setLc (sk : Sk n g fs l X c) {y : Str} {py p : Pos} {j : Nat} {scope : Scope} {own : List Nat} {elt tg iter : Expr} {ifs : List Expr} {ie : E} {src : Src} {it : Tg} {ot : Ot} {m : Bool} (hy : isOwn c j y = true) (hs : swapB c.sc (.ListComp elt [⟨tg, iter, ifs, 0⟩] scope p) (.Name y py) = true)
    (hb : blkC c.N c.sc scope (ownP c own) = true) (ht : ∀ i ∈ tgN it, i ∈ own) (hf : notSet iter = true)
    (hi : PI X tg iter (iS X.K n g fs l src W)) (hg : ∀ (s : Shared) (H : Hp) (C : Addr) (cl : List (Str × Addr)) (fp : List Addr), PG (X.blk s H scope (compEnvC scope cl C X.env) fp) tg (tG X.K n g fs l it))
    (ho : ∀ (s : Shared) (H : Hp) (C : Addr) (cl : List (Str × Addr)) (fp : List Addr), PTs (X.blk s H scope (compEnvC scope cl C X.env) fp) ifs (tTo X.K n g fs l ot W0))
    (he : ∀ (s : Shared) (H : Hp) (C : Addr) (cl : List (Str × Addr)) (fp : List Addr), PE (X.blk s H scope (compEnvC scope cl C X.env) fp) elt (tE X.K n g fs l ie W0)) :
    PS X (.Assign [.Name y py] (.ListComp elt [⟨tg, iter, ifs, 0⟩] scope p) pos) (tS X.K n g fs l (.set (.name j) (.lc m own src it ot ie)) W) := by
  have hy1 : c.N[j]? = some y := by
    unfold isOwn at hy
    rw [Bool.and_eq_true] at hy
    exact of_decide_eq_true hy.1
  have hy2 : X.env.scope.names.lookup y = some .local := by
    unfold swapB at hs
    rw [Bool.and_eq_true, Bool.and_eq_true, beq_iff_eq] at hs
    rw [sk.sc]
    exact hs.1.1
  refine (ps_setLc sk.ok.calm sk.ok.nd (by rw [sk.ok.N]; exact hy1) hy2 (swaps_to sk hs) hi (sk.ok.blkOk hb) hg ho he (fold_of hf)).mono fun D σ H h => ?_
  obtain ⟨Z, env, M, P, R, er, w, k⟩ := h
  simp only [wpS] at w
  rw [ownP_snd]
  refine lc_turns ht ⟨Z, env, M, _, _, R, er, w, fun Z1 M1 H1 d v s1 R1 r1 w1 => ?_, k.rx er⟩
  simp only [wpTg] at w1
  exact k.nx Z1 M1 H1 _ _ s1 R1 ((er.mono s1).set r1) w1
/-! ### a, b = x, y; a, b, c = x, y, z: names of the def's own -/
def isLoc (c : Cc) (i : Nat) (x : Str) : Bool := decide (c.N[i]? = some x) && (c.sc.names.lookup x == some .local)
theorem isLoc_of {c : Cc} {i : Nat} {x : Str} (h : isLoc c i x = true) : c.N[i]? = some x ∧ c.sc.names.lookup x = some .local := by
  unfold isLoc at h
  rw [Bool.and_eq_true] at h
  exact ⟨of_decide_eq_true h.1, by simpa using h.2⟩
def starIn (vs : List Expr) : Bool := vs.any fun | .Starred .. => true | _ => false
theorem kind_at (sk : Sk n g fs l X c) : X.env.blockKind = .function := by
  unfold Env.blockKind
  rw [sk.sc, sk.kd] <;> rfl
theorem s_par2 (sk : Sk n g fs l X c) {i j : Nat} {x y : Str} {px py pt p2 : Pos} {kt k2} {a b : Expr} {ies : Es} (hi : isLoc c i x = true) (hj : isLoc c j y = true) (hij : i ≠ j) (hl : (py.line == px.line) = true) (hst : starIn [a, b] = false)
    (h1 : [a, b].all (foldedForSure 8) = false) (h2 : [a, b].all (constantsAlone 8) = false) (he : PA X [a, b] (tA X.K n g fs l ies W)) :
    PS X (.Assign [.Tuple [.Name x px, .Name y py] kt pt] (.Tuple [a, b] k2 p2) pos) (tS X.K n g fs l (.par [i, j] ies) W) := by
  obtain ⟨i1, i2⟩ := isLoc_of hi
  obtain ⟨j1, j2⟩ := isLoc_of hj
  have hxy : x ≠ y := by
    rintro rfl
    exact hij (nodup_ix (sk.ok.N ▸ sk.ok.nd) i1 j1)
  have hw : swappedStores [.Tuple [.Name x px, .Name y py] kt pt] (.Tuple [a, b] k2 p2) X.env = pure (some [x, y]) := by
    unfold swappedStores
    have e1 : X.env.kindOf x = some .local := by unfold Env.kindOf; rw [sk.sc, i2]
    have e2 : X.env.kindOf y = some .local := by unfold Env.kindOf; rw [sk.sc, j2]
    have ed : ([x, y] : List Str).eraseDups.length = 2 := by
      have : (y == x) = false := beq_eq_false_iff_ne.mpr fun e => hxy e.symm
      simp [List.eraseDups_cons, this]
    have hl' : py.line = px.line := by simpa using hl
    simp only [List.length_cons, List.length_nil, kind_at sk, h1, h2, e1, e2, List.filterMap_cons, List.filterMap_nil, List.head?_cons, Option.map_some, Option.getD_some, Expr.pos, beq_self_eq_true, hl', Bool.and_self, if_true, ed]
    rw [if_neg (by simp)]
    split
    · rename_i q
      exact absurd (show starIn [a, b] = true from q) (by rw [hst]; simp)
    · rfl
  refine (ps_par sk.ok.calm sk.ok.nd (by rw [sk.ok.N]; exact i1) (by rw [sk.ok.N]; exact j1) hij (by rw [sk.sc]; exact i2) (by rw [sk.sc]; exact j2) he hw).mono fun D σ H ⟨Z, env, M, P, R, er, w, k⟩ => ?_
  simp only [wpS] at w
  refine ⟨Z, env, M, _, _, R, er, w, fun Z1 M1 H1 ds vs s1 R1 r1 w1 => ?_, k.rx er⟩
  obtain ⟨hl2, w1⟩ := w1
  obtain ⟨d1, d2, rfl⟩ : ∃ d1 d2, ds = [d1, d2] := by
    match ds, hl2 with
    | [d1, d2], _ => exact ⟨d1, d2, rfl⟩
  unfold Reps at r1
  obtain ⟨v1, ws, rfl, q1, r1⟩ := r1
  unfold Reps at r1
  obtain ⟨v2, ws, rfl, q2, r1⟩ := r1
  unfold Reps at r1
  subst r1
  exact ⟨v1, v2, rfl, k.nx Z1 M1 H1 _ _ s1 R1 (((er.mono s1).set q1).set q2) w1⟩
theorem s_par3 (sk : Sk n g fs l X c) {i j o : Nat} {x y z : Str} {px py pz pt p2 : Pos} {kt k2} {a b d : Expr} {ies : Es} (hi : isLoc c i x = true) (hj : isLoc c j y = true) (ho : isLoc c o z = true) (hij : i ≠ j) (hio : i ≠ o) (hjo : j ≠ o)
    (hl : (py.line == px.line) = true) (hl2 : (pz.line == px.line) = true) (hst : starIn [a, b, d] = false)
    (h1 : [a, b, d].all (foldedForSure 8) = false) (h2 : [a, b, d].all (constantsAlone 8) = false) (he : PA X [a, b, d] (tA X.K n g fs l ies W)) :
    PS X (.Assign [.Tuple [.Name x px, .Name y py, .Name z pz] kt pt] (.Tuple [a, b, d] k2 p2) pos) (tS X.K n g fs l (.par [i, j, o] ies) W) := by
  obtain ⟨i1, i2⟩ := isLoc_of hi
  obtain ⟨j1, j2⟩ := isLoc_of hj
  obtain ⟨o1, o2⟩ := isLoc_of ho
  have nd := sk.ok.N ▸ sk.ok.nd
  have hxy : x ≠ y := by
    rintro rfl
    exact hij (nodup_ix nd i1 j1)
  have hxz : x ≠ z := by
    rintro rfl
    exact hio (nodup_ix nd i1 o1)
  have hyz : y ≠ z := by
    rintro rfl
    exact hjo (nodup_ix nd j1 o1)
  have hw : swappedStores [.Tuple [.Name x px, .Name y py, .Name z pz] kt pt] (.Tuple [a, b, d] k2 p2) X.env = pure (some [x, y, z]) := by
    unfold swappedStores
    have e1 : X.env.kindOf x = some .local := by unfold Env.kindOf; rw [sk.sc, i2]
    have e2 : X.env.kindOf y = some .local := by unfold Env.kindOf; rw [sk.sc, j2]
    have e3 : X.env.kindOf z = some .local := by unfold Env.kindOf; rw [sk.sc, o2]
    have ed : ([x, y, z] : List Str).eraseDups.length = 3 := by
      have q1 : (y == x) = false := beq_eq_false_iff_ne.mpr fun e => hxy e.symm
      have q2 : (z == x) = false := beq_eq_false_iff_ne.mpr fun e => hxz e.symm
      have q3 : (z == y) = false := beq_eq_false_iff_ne.mpr fun e => hyz e.symm
      simp [List.eraseDups_cons, q1, q2, q3]
    have hl' : py.line = px.line := by simpa using hl
    have hl2' : pz.line = px.line := by simpa using hl2
    simp only [List.length_cons, List.length_nil, kind_at sk, h1, h2, e1, e2, e3, List.filterMap_cons, List.filterMap_nil, List.head?_cons, Option.map_some, Option.getD_some, Expr.pos, beq_self_eq_true, hl', hl2', Bool.and_self, if_true, ed]
    rw [if_neg (by simp)]
    split
    · rename_i q
      exact absurd (show starIn [a, b, d] = true from q) (by rw [hst]; simp)
    · rfl
  refine (ps_par3 sk.ok.calm sk.ok.nd (by rw [sk.ok.N]; exact i1) (by rw [sk.ok.N]; exact j1) (by rw [sk.ok.N]; exact o1) hij hio hjo (by rw [sk.sc]; exact i2) (by rw [sk.sc]; exact j2) (by rw [sk.sc]; exact o2) he hw).mono fun D σ H ⟨Z, env, M, P, R, er, w, k⟩ => ?_
  simp only [wpS] at w
  refine ⟨Z, env, M, _, _, R, er, w, fun Z1 M1 H1 ds vs s1 R1 r1 w1 => ?_, k.rx er⟩
  obtain ⟨hl2, w1⟩ := w1
  obtain ⟨d1, d2, d3, rfl⟩ : ∃ d1 d2 d3, ds = [d1, d2, d3] := by
    match ds, hl2 with
    | [d1, d2, d3], _ => exact ⟨d1, d2, d3, rfl⟩
  unfold Reps at r1
  obtain ⟨v1, ws, rfl, q1, r1⟩ := r1
  unfold Reps at r1
  obtain ⟨v2, ws, rfl, q2, r1⟩ := r1
  unfold Reps at r1
  obtain ⟨v3, ws, rfl, q3, r1⟩ := r1
  unfold Reps at r1
  subst r1
  exact ⟨v1, v2, v3, rfl, k.nx Z1 M1 H1 _ _ s1 R1 ((((er.mono s1).set q1).set q2).set q3) w1⟩
/-! op= -/
def rAug (K : PySem.W.Frag) (n : Nm) (op : Bop) : R2 := fun x y H Q => ∃ Z M d e z, Rel K n Z M H ∧ Rep K n Z d x ∧ Rep K n Z e y ∧ augF op d e = some z ∧ ∀ v, Rep K n Z z v → Q v H
theorem aug_ok (op : Bop) : OpR X (inplaceOp (bopO op)) (rAug X.K n op) := by
  intro pins s σ H x y v u Q I rx ry ⟨Z, M, d, e, z, R, r1, r2, ez, h⟩
  unfold augF at ez
  split at ez
  · rename_i i j
    have ex : x = .int i := r1.view R
    have ey : y = .int j := r2.view R
    split at ez
    · cases ez
    · cases op with
      | add =>
        cases ez
        exact iop_add pins s σ H _ _ v u Q I rx ry ⟨i, j, ex, ey, h _ rep_int⟩
      | sub =>
        cases ez
        exact iop_sub pins s σ H _ _ v u Q I rx ry ⟨i, j, ex, ey, h _ rep_int⟩
      | mul =>
        have ez : mulF (.int i) (.int j) = some z := ez
        simp only [mulF] at ez
        split at ez
        · rename_i hm
          cases ez
          exact iop_mul pins s σ H _ _ v u Q I rx ry ⟨i, j, ex, ey, hm, h _ rep_int⟩
        · cases ez
      | fdiv =>
        have ez : fdivF (.int i) (.int j) = some z := ez
        simp only [fdivF] at ez
        split at ez
        · rename_i hm
          cases ez
          exact iop_fdiv pins s σ H _ _ v u Q I rx ry ⟨i, j, ex, ey, hm, h _ rep_int⟩
        · cases ez
      | mod =>
        have ez : modF (.int i) (.int j) = some z := ez
        simp only [modF] at ez
        split at ez
        · rename_i hm
          cases ez
          exact iop_mod pins s σ H _ _ v u Q I rx ry ⟨i, j, ex, ey, hm, h _ rep_int⟩
        · cases ez
      | pow => exact absurd rfl (by assumption)
  · rename_i a b
    have ex : x = .str ⟨a.toArray⟩ := r1.view R
    have ey : y = .str ⟨b.toArray⟩ := r2.view R
    split at ez
    · rename_i ho
      subst ho
      simp only [addF] at ez
      split at ez
      · rename_i hl
        cases ez
        exact iop_add_str pins s σ H _ _ v u Q I rx ry ⟨_, _, ex, ey, by rw [str_len, str_len]; exact hl, by rw [str_app]; exact h _ rep_str⟩
      · cases ez
    · cases ez
  · cases ez
theorem s_aug (ok : Ok n g fs l X c) {x : Str} {p : Pos} {e : Expr} {i : Nat} {op : Bop} {ie : E} (hx : isOwn c i x = true) (he : PE X e (tE X.K n g fs l ie W)) : PS X (.AugAssign (.Name x p) (bopO op) e pos) (tS X.K n g fs l (.aug i op ie) W) := by
  have hx2 := hx
  unfold isOwn at hx2
  rw [Bool.and_eq_true] at hx2
  obtain ⟨h1, h2⟩ := hx2
  have h1 := of_decide_eq_true h1
  cases q : c.sc.names.lookup x with
  | none =>
    rw [q] at h2
    cases h2
  | some kd =>
    rw [q] at h2
    have hk : kd = .local ∨ kd = .cell := by
      cases kd with
      | «local» => exact .inl rfl
      | cell => exact .inr rfl
      | _ => cases h2
    obtain ⟨hl, hf⟩ := ok.own x kd q hk
    refine (ps_aug (ti := rAug X.K n op) ok.nd (by rw [ok.N]; exact h1) hl he (aug_ok op) hf).mono fun D σ H ⟨Z, env, M, P, R, er, w, k⟩ => ?_
    simp only [wpS] at w
    obtain ⟨d0, hv, w⟩ := opt_elim w
    obtain ⟨v, hv1, hv2⟩ := er.val i d0 (join_some hv)
    refine ⟨v, hv1, Z, env, M, _, _, R, er, w, fun Z1 M1 H1 d u s1 R1 r1 w1 => ?_, k.rx er⟩
    obtain ⟨z, ez, w1⟩ := opt_elim w1
    exact ⟨Z1, M1, d0, d, z, R1, Rep.mono _ _ s1 d0 hv2, r1, ez, fun t rt => k.nx Z1 M1 H1 _ _ s1 R1 ((er.mono s1).set rt) w1⟩
/-! o.f op= e -/
theorem s_augf (ok : Ok n g fs l X c) {o e : Expr} {a : Str} {p : Pos} {io ie : E} {f : Nat} {op : Bop} (ea : a = n.nm f) (ho : PE X o (tE X.K n g fs l io W)) (he : PE X e (tE X.K n g fs l ie W)) :
    PS X (.AugAssign (.Attribute o a p) (bopO op) e pos) (tS X.K n g fs l (.augf io f op ie) W) := by
  subst ea
  refine (ps_fldaug (rd := rAug X.K n op) ho he (aug_ok op)).mono fun D σ H ⟨Z, env, M, P, R, er, w, k⟩ => ?_
  simp only [wpS] at w
  refine ⟨Z, env, M, _, _, R, er, w, fun Z1 M1 H1 d v s1 R1 r1 w1 => ?_, k.rx er⟩
  obtain ⟨fv, efv, w1⟩ := opt_elim w1
  obtain ⟨cl, fl, vs, ed, hf, el⟩ := fldF_some efv
  have vw := r1.deref R1
  rw [ed] at vw
  obtain ⟨b, dx, ws, ev, h1, h2, h3⟩ := vw
  obtain ⟨t, h4, h5⟩ := lookF_ws ok.fc.inj el h2 h3
  obtain ⟨hc, hn⟩ := ok.fc.cls cl f hf
  refine ⟨b, _, dx, ws, t, ev, h1, hc, hn, h4, Z1, env, M1, _, _, R1, er.mono s1, w1, fun Z2 M2 H2 d2 v2 s2 R2 r2 w2 => ?_, (k.mono s1).rx (er.mono s1)⟩
  obtain ⟨hcl, w2⟩ := w2
  obtain ⟨z, ez, w2⟩ := opt_elim w2
  obtain ⟨M3, e3, w2⟩ := opt_elim w2
  refine ⟨Z2, M2, fv, d2, z, R2, Rep.mono _ _ s2 fv h5, r2, ez, fun u ru => ?_⟩
  subst ev
  cases d with
  | loc a2 =>
    have q : V.ref b = V.ref a2 := by
      unfold Rep at r1
      exact r1
    injection q with q
    subst q
    simp only [putFld] at e3
    split at e3
    · rename_i cl2 fl2 vs2 em
      split at e3
      · rename_i hc2
        cases e3
        obtain ⟨hz, dx2, ws2, q1, q2, q3⟩ := R2.may b _ em
        have ecl : cl2 = cl := by
          rw [ed, show deref M2 (.loc b) = .ins cl2 fl2 vs2 by simp [deref, em]] at hcl
          injection hcl with hcl
          exact hcl.symm
        subst ecl
        have hlen : ws2.length = fl2.length := by
          have := congrArg List.length q2
          simpa using this
        obtain ⟨p1, p2⟩ := setF_ws ok.fc.inj ru (f := f) q2 q3
        have ro : RepO X.K n Z2 (upd H2 b (.ins (cad X.K n cl2) dx2 (putF (n.nm f) u ws2))) b (.ins cl2 (setF fl2 vs2 f z).1 (setF fl2 vs2 f z).2) := ⟨dx2, _, upd_same, p1, p2⟩
        exact ⟨dx2, ws2, q1, by rw [hlen]; exact hc2.2, k.nx Z2 _ _ env σ (s1.trans s2) (R2.put hz ro) (er.mono (s1.trans s2)) w2⟩
      · cases e3
    · cases e3
  | _ => simp [putFld] at e3
end
end Lw

set_option Elab.async false
set_option linter.all false
set_option maxRecDepth 100000
set_option maxHeartbeats 2000000
/-! Lw20: loops, raise, try; the check of statements and its soundness. -/
namespace Lw
open PySem PySem.Spec PyProof.Rows L2

section
variable {n : Nm} {g : G} {fs : Nat → Option Fd} {l : Nat} {X : Cx} {c : Cc} {W : WX} {pos : Pos}
theorem s_for (sk : Sk n g fs l X c) {tg iter : Expr} {body : List Stmt} {it : Tg} {src : Src} {ib : Ss} (hf : notSet iter = true) (hi : PI X tg iter (iS X.K n g fs l src W)) (hg : PG X tg (tG X.K n g fs l it)) (hb : PSs X body (tSs X.K n g fs l ib W)) :
    PS X (.For tg iter body [] pos) (tS X.K n g fs l (.forr it src ib) W) :=
  (ps_for sk.hp sk.ok.calm hi hg hb (fold_of hf)).mono fun D σ H ⟨Z, env, M, P, R, er, w, k⟩ => by
    simp only [wpS] at w
    refine ⟨Z, env, M, _, _, R, er, w, fun Z1 M1 H1 items gd J s1 R1 sj w1 => ?_, k.rx er⟩
    refine ⟨fun i q σ2 H2 => q + i = items.length ∧ ∃ Z2 M2 env2, Same Z1 Z2 ∧ Rel X.K n Z2 M2 H2 ∧ ERel X.K n Z2 env2 σ2 ∧
      forLoop gd (fun d e m k => wpTg g (wpF g fs l) it d e m (fun e' m' => wpSs g (wpF g fs l) ib e' m' ⟨k, P.rt, P.nx, k, P.xc⟩) (fun x m => P.xc x e m)) P.nx (items.drop i) env2 M2, ⟨items.length, rfl, Z1, M1, env, Same.refl Z1, R1, er.mono s1, w1⟩, ?_⟩
    rintro i q σ2 H2 ⟨hq, Z2, M2, env2, s3, R2, er2, w2⟩
    have kk := k.mono (s1.trans s3)
    cases hd : items[i]? with
    | none =>
      have hle : items.length ≤ i := List.getElem?_eq_none_iff.mp hd
      have hl : items.length = i := by omega
      rw [List.drop_of_length_le hle] at w2
      obtain ⟨hgd, w2⟩ := w2
      exact .inl ⟨(sj i Z2 M2 H2 s3 R2 hgd).2 hl, kk.nx Z2 M2 H2 env2 σ2 (Same.refl _) R2 er2 w2⟩
    | some d =>
      have hlt : i < items.length := by
        rcases Nat.lt_or_ge i items.length with z | z
        · exact z
        · rw [List.getElem?_eq_none z] at hd
          cases hd
      have hdrop : items.drop i = d :: items.drop (i + 1) := by
        rw [List.drop_eq_getElem_cons hlt]
        rw [List.getElem?_eq_getElem hlt] at hd
        cases hd
        rfl
      rw [hdrop] at w2
      obtain ⟨hgd, w2⟩ := w2
      obtain ⟨hgo, hy⟩ := (sj i Z2 M2 H2 s3 R2 hgd).1 d hd
      refine .inr ⟨hgo, fun σ3 H3 => (q - 1) + (i + 1) = items.length ∧ _, fun σ3 H3 hN => ⟨q - 1, by omega, hN⟩, fun x H3 hyl => ?_⟩
      obtain ⟨Z3, s4, R3, rx⟩ := hy x H3 hyl
      refine ⟨Z3, env2, M2, d, _, _, R3, er2.mono s4, rx, w2, fun Z4 M4 H4 env4 σ4 s5 R4 er4 _ _ w4 => ⟨Z4, env4, M4, _, R4, er4, w4, ?_⟩⟩
      have s14 : Same Z1 Z4 := (s3.trans s4).trans s5
      have k4 := k.mono (s1.trans s14)
      exact ⟨fun Z5 M5 H5 env5 σ5 s6 R5 er5 w5 => ⟨by omega, Z5, M5, env5, s14.trans s6, R5, er5, w5⟩, k4.rt, k4.nx, fun Z5 M5 H5 env5 σ5 s6 R5 er5 w5 => ⟨by omega, Z5, M5, env5, s14.trans s6, R5, er5, w5⟩, k4.xc⟩
theorem s_while (sk : Sk n g fs l X c) {t : Expr} {body : List Stmt} {it : T} {ib : Ss} (ht : PT X t (tT X.K n g fs l it W)) (hb : PSs X body (tSs X.K n g fs l ib W)) : PS X (.While t body [] pos) (tS X.K n g fs l (.whil it ib) W) :=
  (ps_while sk.hp ht hb).mono fun D σ H ⟨Z, env, M, P, R, er, w, k⟩ => by
    simp only [wpS] at w
    obtain ⟨q, w⟩ := w
    refine ⟨fun m σ2 H2 => ∃ Z2 M2 env2, Same Z Z2 ∧ Rel X.K n Z2 M2 H2 ∧ ERel X.K n Z2 env2 σ2 ∧ whLoop (fun e m k => wpT g (wpF g fs l) it e m (fun z m1 => if z = true then wpSs g (wpF g fs l) ib e m1 ⟨k, P.rt, P.nx, k, P.xc⟩ else P.nx e m1) (fun x m => P.xc x e m)) m env2 M2,
      ⟨q, Z, M, env, Same.refl Z, R, er, w⟩, ?_⟩
    rintro m σ2 H2 ⟨Z2, M2, env2, s2, R2, er2, w2⟩
    cases m with
    | zero => exact w2.elim
    | succ m =>
      have w2 : wpT g (wpF g fs l) it env2 M2 (fun z m1 => if z = true then wpSs g (wpF g fs l) ib env2 m1 ⟨whLoop _ m, P.rt, P.nx, whLoop _ m, P.xc⟩ else P.nx env2 m1) (fun x m => P.xc x env2 m) := w2
      refine ⟨Z2, env2, M2, _, _, R2, er2, w2, fun Z3 M3 H3 b s3 R3 w3 => ?_, (k.mono s2).rx er2⟩
      have k3 := k.mono (s2.trans s3)
      cases b with
      | false =>
        dsimp only at w3 ⊢
        rw [if_neg Bool.false_ne_true] at w3 ⊢
        exact k3.nx Z3 M3 H3 env2 σ2 (Same.refl _) R3 (er2.mono s3) w3
      | true =>
        dsimp only at w3 ⊢
        rw [if_pos rfl] at w3 ⊢
        refine ⟨fun σ4 H4 => _, fun σ4 H4 hN => ⟨m, Nat.lt_succ_self m, hN⟩, Z3, env2, M3, _, R3, er2.mono s3, w3, ?_⟩
        exact ⟨fun Z5 M5 H5 env5 σ5 s6 R5 er5 w5 => ⟨Z5, M5, env5, (s2.trans s3).trans s6, R5, er5, w5⟩, k3.rt, k3.nx, fun Z5 M5 H5 env5 σ5 s6 R5 er5 w5 => ⟨Z5, M5, env5, (s2.trans s3).trans s6, R5, er5, w5⟩, k3.xc⟩
/-- raise X() -/
theorem pmk_own0 {C : Addr} {bmB : List Value} {B newId initId : String} {x : Str} {p : Pos} (F : ExcBaseFacts B newId initId bmB) (q : PySem.W.excIn X.K C bmB newId = true) (gC : X.mg x = some (.ref C)) (kC : PySem.W.keepIn X.K (.ref C) = true) (r : Raises X (.ref C)) (hg : Gl X x) (hdb : (x == ("__debug__" : Str)) = false) :
    PMk X (.Call (.Name x p) [] [] pos) (fun _ H Q => Q (.ref C) none H) := by
  intro pins s σ H Q I h
  refine wpAny_Call_Name_kw (ld_glob I hg gC (PySem.W.callWith_K0 I.kIn kC ?_) hdb)
  obtain ⟨bm, N, nm, qn, bs, hdct, sn, sub, ab, col, dd, k0, k1, k2, k3, k5, mN, hC, hN, hni, T⟩ := exc_obj I.kIn q
  refine wpAny_call_exc_subT F T hC hN hni (fun h' e hm => ?_) (by show 0 ≤ sizeLine; exact Nat.zero_le _)
  exact mk_of I hm r h (I.hok.gone hm.new)
theorem s_raise (ok : Ok n g fs l X c) (tk : Takes X W) {x : Str} {p p2 : Pos} {k : Nat} (hx : isGl c x = true) (ex : x = n.nm k) (hs : g.sub k k = true) : PS X (.Raise (some (.Call (.Name x p) [] [] p2)) none pos) (tS X.K n g fs l (.raise k) W) := by
  obtain ⟨h1, h2, h3, h4, h5⟩ := ok.fc.exc k ⟨k, hs⟩
  subst ex
  refine (ps_raise ok.calm tk (pmk_own0 (F.excBase_ValueError) h1 h5 h2 (raises_own h3 h4) (ok.gl hx).1 (ok.gl hx).2)).mono fun D σ H ⟨Z, env, M, P, R, er, w, kk⟩ => ?_
  simp only [wpS] at w
  exact kk.xc Z M H env σ ⟨k⟩ (Same.refl Z) R er w
/-! ### try -/
theorem Ok.tr (ok : Ok n g fs l X c) (pn : List (Addr × Obj)) (xe : Value → Shared → Prop) : Ok n g fs l (X.tr pn xe) c := ⟨ok.fc, ok.N, ok.nd, ok.calm, ok.room, ok.vis, ok.own, ok.cap, ok.glb, ok.fns⟩
/-- constants, tuples of constants -/
def isKs : Es → Bool
  | .nil => true
  | .cons (.cst _) es => isKs es
  | _ => false
def isK : E → Bool
  | .cst _ => true
  | .tup es => isKs es
  | _ => false
theorem k_es : ∀ {ir : Es} {es : List Expr}, isKs ir = true → chkEs n g fs ir c es = true → PA X es (tA X.K n g fs l ir W)
  | .nil, es, _, h => by
    simp only [chkEs, List.isEmpty_iff] at h
    subst h
    exact c_nil
  | .cons (.cst d) is, es, hk, h => by
    simp only [chkEs] at h
    split at h
    · simp only [Bool.and_eq_true] at h
      obtain ⟨h1, h2, h3⟩ := h
      simp only [chkE] at h2
      split at h2
      · exact c_cons h1 (c_cst h2) (k_es (by simpa [isKs] using hk) h3)
      · cases h2
    · cases h
theorem k_e {ir : E} {e : Expr} (hk : isK ir = true) (h : chkE n g fs ir c e = true) : PE X e (tE X.K n g fs l ir W) := by
  cases ir with
  | cst d =>
    simp only [chkE] at h
    split at h
    · exact c_cst h
    · cases h
  | tup es =>
    simp only [chkE] at h
    split at h
    · exact c_tup (k_es (by simpa [isK] using hk) h)
    · cases h
  | _ => simp [isK] at hk
theorem s_try (sk : Sk n g fs l X c) (tk : Takes X W) {x : Str} {p p2 p3 : Pos} {k : Nat} {body : List Stmt} {e : Expr} {ib : Ss} {dr : List Nat} {ie : E} (hx : isGl c x = true) (ex : x = n.nm k) (hs : g.sub k k = true) (hk : isK ie = true) (he : chkE n g fs ie c e = true)
    (hb : ∀ (W : WX) (pn : List (Addr × Obj)) (xe : Value → Shared → Prop), Takes (X.tr pn xe) W → PassesOwn (model X.prog X.w) X.A X.env xe → PSs (X.tr pn xe) body (tSs X.K n g fs l ib W)) :
    PS X (.Try body [.ExceptHandler (some (.Name x p)) none [.Return (some e) p2] p3] [] [] pos) (tS X.K n g fs l (.tryo ib k (.cons (.ret dr ie) .nil)) W) := by
  obtain ⟨h1, h2, h3, h4, h5⟩ := sk.ok.fc.exc k ⟨k, hs⟩
  subst ex
  refine (ps_try_only (c := .ref (cad X.K n k)) (ts := fun _ _ _ => tSs X.K n g fs l (.cons (.ret dr ie) .nil) W0) sk.stk sk.frm ⟨(sk.ok.gl hx).1, (sk.ok.gl hx).2, .inl h5⟩ tk hb fun a oe cls d pn _ _ => ?_).mono fun D σ H ⟨Z, env, M, P, R, er, w, kk⟩ => ?_
  · exact s_cons (X := X.suite a ((a, oe) :: pn)) (s_ret (k_e hk he)) s_nil
  · simp only [wpS] at w
    refine ⟨Z, env, M, _, R, er, w, ⟨kk.nx, kk.rt, kk.bk, kk.ct, fun Z1 M1 H1 env1 σ1 x s1 R1 er1 w1 => ?_⟩⟩
    obtain ⟨w0, w1⟩ := w1
    refine ⟨g.sub x.c k, sk.ok.fc.exm x.c k w0 hs, fun hb a ha => ?_, fun hb => ?_⟩
    · rw [if_pos hb] at w1
      have k1 := kk.mono s1
      exact ⟨Z1, env1, M1, _, R1, er1, w1, ⟨k1.nx, k1.rt, k1.bk, k1.ct, fun _ _ _ _ _ _ _ _ _ q => q.elim⟩⟩
    · rw [if_neg (by rw [hb]; exact Bool.false_ne_true)] at w1
      exact kk.xc Z1 M1 H1 env1 σ1 x s1 R1 er1 w1
end
/-! ### the check -/
section
variable (n : Nm) (g : G) (fs : Nat → Option Fd)
mutual
def chkS : S → Cc → Stmt → Bool
  | .set tg e, c, s => match s with
    | .Assign [t] v _ => noStar t && (chkTg n g fs tg c t && (chkE n g fs e c v && ((notComp v || isLc v) && (noPair t v && (if swapB c.sc v t = true then (match tg, e with
      | .name _, .lc _ _ _ _ _ _ => true
      | _, _ => false) else true)))))
    | _ => false
  | .par is es, c, s => match is, s with
    | [i, j], .Assign [.Tuple [.Name x px, .Name y py] _ _] (.Tuple [a, b] _ _) _ => isLoc c i x && (isLoc c j y && (decide (i ≠ j) && ((py.line == px.line) && (!starIn [a, b] && (![a, b].all (foldedForSure 8) && (![a, b].all (constantsAlone 8) && chkEs n g fs es c [a, b]))))))
    | [i, j, k], .Assign [.Tuple [.Name x px, .Name y py, .Name z pz] _ _] (.Tuple [a, b, d] _ _) _ => isLoc c i x && (isLoc c j y && (isLoc c k z && (decide (i ≠ j) && (decide (i ≠ k) && (decide (j ≠ k) && ((py.line == px.line) && ((pz.line == px.line) && (!starIn [a, b, d] && (![a, b, d].all (foldedForSure 8) && (![a, b, d].all (constantsAlone 8) && chkEs n g fs es c [a, b, d]))))))))))
    | _, _ => false
  | .aug i op e, c, s => match s with
    | .AugAssign (.Name x _) o v _ => isOwn c i x && (decide (o = bopO op) && chkE n g fs e c v)
    | _ => false
  | .augf o f op e, c, s => match s with
    | .AugAssign (.Attribute x a _) p v _ => decide (a = n.nm f) && (decide (p = bopO op) && (chkE n g fs o c x && chkE n g fs e c v))
    | _ => false
  | .ife t a b, c, s => match s with
    | .If x y z _ => chkT n g fs t c x && (chkSs a c y && chkSs b c z)
    | _ => false
  | .forr tg src body, c, s => match s with
    | .For t i b [] _ => notSet i && (chkSrc n g fs src c t i && (chkTg n g fs tg c t && chkSs body c b))
    | _ => false
  | .whil t body, c, s => match s with
    | .While x b [] _ => chkT n g fs t c x && chkSs body c b
    | _ => false
  | .ret _ e, c, s => match s with
    | .Return (some v) _ => chkE n g fs e c v
    | _ => false
  | .retN _, _, s => match s with
    | .Return none _ => true
    | _ => false
  | .raise k, c, s => match s with
    | .Raise (some (.Call (.Name x _) [] [] _)) none _ => isGl c x && (decide (x = n.nm k) && g.sub k k)
    | _ => false
  | .exp e, c, s => match s with
    | .Expr v _ => notComp v && chkE n g fs e c v
    | _ => false
  | .pass, _, s => match s with
    | .Pass _ => true
    | _ => false
  | .brk, _, s => match s with
    | .Break _ => true
    | _ => false
  | .cnt, _, s => match s with
    | .Continue _ => true
    | _ => false
  | .never, _, _ => true
  | .tryo body k suite, c, s => match s with
    | .Try b [.ExceptHandler (some (.Name x _)) none [.Return (some v) _] _] [] [] _ => isGl c x && (decide (x = n.nm k) && (g.sub k k && (chkSs body c b && (match suite with
      | .cons (.ret _ e) .nil => isK e && chkE n g fs e c v
      | _ => false))))
    | _ => false
def chkSs : Ss → Cc → List Stmt → Bool
  | .nil, _, ss => ss.isEmpty
  | .cons a as, c, ss => match ss with
    | s :: ss => chkS a c s && chkSs as c ss
    | [] => false
end
end
section
variable {n : Nm} {g : G} {fs : Nat → Option Fd} {l : Nat}
theorem Sk.tr {X : Cx} {c : Cc} (sk : Sk n g fs l X c) {pn : List (Addr × Obj)} {xe : Value → Shared → Prop} (h : PassesOwn (model X.prog X.w) X.A X.env xe) : Sk n g fs l (X.tr pn xe) c := ⟨sk.ok.tr pn xe, sk.sc, sk.kd, h, sk.stk, sk.frm⟩
mutual
theorem sS : ∀ (ir : S) (c : Cc) (X : Cx) (W : WX) (s : Stmt), Sk n g fs l X c → Takes X W → chkS n g fs ir c s = true → PS X s (tS X.K n g fs l ir W)
  | .set tg e, c, X, W, s, sk, tk, h => by
    simp only [chkS] at h
    split at h
    · simp only [Bool.and_eq_true] at h
      obtain ⟨h1, h2, h3, h4, h5, h6⟩ := h
      rename_i t v p
      by_cases hb : swapB c.sc v t = true
      · rw [if_pos hb] at h6
        split at h6
        · rename_i i m own src it ot ie
          cases v with
          | ListComp elt gens scope q =>
            cases t with
            | Name y py =>
              simp only [chkTg] at h2
              simp only [chkE] at h3
              split at h3
              · rename_i x1 tgt iter ifs sc2 p2 he2
                injection he2 with e1 e2 e3 e4
                subst e1 e2 e3 e4
                simp only [Bool.and_eq_true, List.all_eq_true, decide_eq_true_eq] at h3
                obtain ⟨q1, q2, q3, q4, q5, q6, q7⟩ := h3
                exact s_setLc sk h2 hb q1 q2 q3 (sSrc src c X W _ _ sk.ok tk q4) (fun s H C cl fp => sTg it _ _ W0 _ (sk.ok.blk q1 s H C cl fp) takes0 q5) (fun s H C cl fp => sOt ot _ _ W0 _ (sk.ok.blk q1 s H C cl fp) takes0 q6)
                  (fun s H C cl fp => sE ie _ _ W0 _ (sk.ok.blk q1 s H C cl fp) takes0 q7)
              · cases h3
            | _ => simp [swapB] at hb
          | _ => simp [swapB] at hb
        · cases h6
      · exact s_set sk h1 h4 (by simpa using hb) h5 (sE e c X W _ sk.ok tk h3) (sTg tg c X W _ sk.ok tk h2)
    · cases h
  | .par is es, c, X, W, s, sk, tk, h => by
    simp only [chkS] at h
    split at h
    · simp only [Bool.and_eq_true, decide_eq_true_eq, Bool.not_eq_true'] at h
      obtain ⟨h1, h2, h3, h4, h5, h6, h7, h8⟩ := h
      exact s_par2 sk h1 h2 h3 h4 h5 h6 h7 (sEs es c X W _ sk.ok tk h8).1
    · simp only [Bool.and_eq_true, decide_eq_true_eq, Bool.not_eq_true'] at h
      obtain ⟨h1, h2, h3, h4, h5, h6, h7, h8, h9, h10, h11, h12⟩ := h
      exact s_par3 sk h1 h2 h3 h4 h5 h6 h7 h8 h9 h10 h11 (sEs es c X W _ sk.ok tk h12).1
    · cases h
  | .aug i op e, c, X, W, s, sk, tk, h => by
    simp only [chkS] at h
    split at h
    · simp only [Bool.and_eq_true, decide_eq_true_eq] at h
      obtain ⟨h1, h2, h3⟩ := h
      subst h2
      exact s_aug sk.ok h1 (sE e c X W _ sk.ok tk h3)
    · cases h
  | .augf o f op e, c, X, W, s, sk, tk, h => by
    simp only [chkS] at h
    split at h
    · simp only [Bool.and_eq_true, decide_eq_true_eq] at h
      obtain ⟨h1, h2, h3, h4⟩ := h
      subst h2
      exact s_augf sk.ok h1 (sE o c X W _ sk.ok tk h3) (sE e c X W _ sk.ok tk h4)
    · cases h
  | .ife t a b, c, X, W, s, sk, tk, h => by
    simp only [chkS] at h
    split at h
    · simp only [Bool.and_eq_true] at h
      exact s_if (sT t c X W _ sk.ok tk h.1) (sSs a c X W _ sk tk h.2.1) (sSs b c X W _ sk tk h.2.2)
    · cases h
  | .forr tg src body, c, X, W, s, sk, tk, h => by
    simp only [chkS] at h
    split at h
    · simp only [Bool.and_eq_true] at h
      exact s_for sk h.1 (sSrc src c X W _ _ sk.ok tk h.2.1) (sTg tg c X W _ sk.ok tk h.2.2.1) (sSs body c X W _ sk tk h.2.2.2)
    · cases h
  | .whil t body, c, X, W, s, sk, tk, h => by
    simp only [chkS] at h
    split at h
    · simp only [Bool.and_eq_true] at h
      exact s_while sk (sT t c X W _ sk.ok tk h.1) (sSs body c X W _ sk tk h.2)
    · cases h
  | .ret dr e, c, X, W, s, sk, tk, h => by
    simp only [chkS] at h
    split at h
    · exact s_ret (sE e c X W _ sk.ok tk h)
    · cases h
  | .retN dr, c, X, W, s, sk, tk, h => by
    simp only [chkS] at h
    split at h
    · exact s_retN
    · cases h
  | .raise k, c, X, W, s, sk, tk, h => by
    simp only [chkS] at h
    split at h
    · simp only [Bool.and_eq_true, decide_eq_true_eq] at h
      exact s_raise sk.ok tk h.1 h.2.1 h.2.2
    · cases h
  | .exp e, c, X, W, s, sk, tk, h => by
    simp only [chkS] at h
    split at h
    · simp only [Bool.and_eq_true] at h
      exact s_exp h.1 (sE e c X W _ sk.ok tk h.2)
    · cases h
  | .pass, c, X, W, s, sk, tk, h => by
    simp only [chkS] at h
    split at h
    · exact s_pass
    · cases h
  | .brk, c, X, W, s, sk, tk, h => by
    simp only [chkS] at h
    split at h
    · exact s_brk
    · cases h
  | .cnt, c, X, W, s, sk, tk, h => by
    simp only [chkS] at h
    split at h
    · exact s_cnt
    · cases h
  | .never, c, X, W, s, sk, tk, h => s_never
  | .tryo body k suite, c, X, W, s, sk, tk, h => by
    simp only [chkS] at h
    split at h
    · simp only [Bool.and_eq_true, decide_eq_true_eq] at h
      obtain ⟨h1, h2, h3, h4, h5⟩ := h
      split at h5
      · simp only [Bool.and_eq_true] at h5
        exact s_try sk tk h1 h2 h3 h5.1 h5.2 fun W2 pn xe t2 hp => sSs body c (X.tr pn xe) W2 _ (sk.tr hp) t2 h4
      · cases h5
    · cases h
theorem sSs : ∀ (ir : Ss) (c : Cc) (X : Cx) (W : WX) (s : List Stmt), Sk n g fs l X c → Takes X W → chkSs n g fs ir c s = true → PSs X s (tSs X.K n g fs l ir W)
  | .nil, c, X, W, s, sk, tk, h => by
    simp only [chkSs, List.isEmpty_iff] at h
    subst h
    exact s_nil
  | .cons a as, c, X, W, s, sk, tk, h => by
    simp only [chkSs] at h
    split at h
    · simp only [Bool.and_eq_true] at h
      exact s_cons (sS a c X W _ sk tk h.1) (sSs as c X W _ sk tk h.2)
    · cases h
end
end
end Lw

set_option Elab.async false
set_option linter.all false
set_option maxRecDepth 100000
set_option maxHeartbeats 2000000
/-! Lw21: tables of a text; the module's facts from them; every def keeps its promise. -/
namespace Lw
open PySem PySem.Spec PyProof.Rows L2

/-! ### tables -/
structure Tb where
  nms : List Str
  fns : List (Str × Option Str)
  cns : List (Str × D)
  fat : List (Nat × List Nat)
  mts : List (Nat × Nat × Nat)
  ini : List (Nat × Nat)
  exs : List Nat
  subs : List (Nat × Nat)
  cls : List Nat
def nmF (nms : List Str) (i : Nat) : Str := match nms[i]? with
  | some x => x
  | none => ⟨#[2000000 + i]⟩
def low (x : Str) : Bool := x.cps.toList.all fun c => decide (c < 2000000)
theorem nmF_inj {nms : List Str} (h1 : nms.Nodup) (h2 : nms.all low = true) : ∀ i j, nmF nms i = nmF nms j → i = j := by
  intro i j e
  unfold nmF at e
  have out : ∀ (x : Str) (k : Nat), x ∈ nms → x = ⟨#[2000000 + k]⟩ → False := fun x k hx ex => by
    have q := List.all_eq_true.mp h2 x hx
    rw [ex] at q
    simp [low] at q
    omega
  cases qi : nms[i]? with
  | none =>
    rw [qi] at e
    cases qj : nms[j]? with
    | none =>
      rw [qj] at e
      have e2 : (⟨#[2000000 + i]⟩ : Str) = ⟨#[2000000 + j]⟩ := e
      injection e2 with e3
      have e4 := congrArg Array.toList e3
      simp at e4
      exact e4
    | some y =>
      rw [qj] at e
      exact (out y i (List.mem_of_getElem? qj) e.symm).elim
  | some x =>
    rw [qi] at e
    cases qj : nms[j]? with
    | none =>
      rw [qj] at e
      exact (out x j (List.mem_of_getElem? qi) e).elim
    | some y =>
      rw [qj] at e
      have e : x = y := e
      subst e
      exact nodup_ix h1 qi qj
def Tb.n (t : Tb) : Nm := ⟨nmF t.nms, fun i => t.fns.getD i (Str.empty, none), fun i => (t.cns.getD i (Str.empty, .non)).1⟩
def Tb.g (t : Tb) : G where
  mt := fun c m => (t.mts.find? fun q => q.1 == c && q.2.1 == m).map (·.2.2)
  ini := fun c => (t.ini.find? fun q => q.1 == c).map (·.2)
  sub := fun c k => t.exs.contains c && (t.exs.contains k && (c == k || t.subs.contains (c, k)))
  fat := fun c => ((t.fat.find? fun q => q.1 == c).map (·.2)).getD []
  con := fun i => (t.cns[i]?).map (·.2)
  cls := t.cls
/-! ### constants -/
mutual
def repB (K : PySem.W.Frag) : D → Value → Bool
  | .non, .none => true
  | .bl b, .bool k => b == k
  | .int i, .int j _ => decide (i = j)
  | .str cs, .str x _ => decide (x.cps.toList = cs)
  | .tup ds, .ref a => match K.lookup a with
    | some ⟨.type c, _, .seq its _, _⟩ => decide (c = "tuple") && (decide (its.size ≤ sizeLine) && repBs K ds its.toList)
    | _ => false
  | _, _ => false
def repBs (K : PySem.W.Frag) : List D → List Value → Bool
  | [], [] => true
  | d :: ds, u :: us => repB K d u && repBs K ds us
  | _, _ => false
end
section
variable {K : PySem.W.Frag} {n : Nm}
mutual
theorem repB_ok : ∀ (d : D) (u : Value), repB K d u = true → ∃ v, RelV v u ∧ ∀ Z, Rep K n Z d v
  | .non, u, h => by
    cases u with
    | none => exact ⟨.non, rfl, fun Z => rep_non⟩
    | _ => simp [repB] at h
  | .bl b, u, h => by
    cases u with
    | bool k =>
      simp only [repB, beq_iff_eq] at h
      subst h
      exact ⟨.bl b, rfl, fun Z => rep_bl⟩
    | _ => simp [repB] at h
  | .int i, u, h => by
    cases u with
    | int j t =>
      simp only [repB, decide_eq_true_eq] at h
      subst h
      exact ⟨.int i, ⟨t, rfl⟩, fun Z => rep_int⟩
    | _ => simp [repB] at h
  | .str cs, u, h => by
    cases u with
    | str x t =>
      simp only [repB, decide_eq_true_eq] at h
      have e := str_of h
      subst e
      exact ⟨.str _, ⟨t, rfl⟩, fun Z => rep_str⟩
    | _ => simp [repB] at h
  | .tup ds, u, h => by
    cases u with
    | ref a =>
      simp only [repB] at h
      split at h
      · rename_i c od its m sl hq
        simp only [Bool.and_eq_true, decide_eq_true_eq] at h
        obtain ⟨h1, h2, h3⟩ := h
        obtain ⟨vs, rv, hr⟩ := repBs_ok ds its.toList h3
        subst h1
        refine ⟨.ref a, rfl, fun Z => ?_⟩
        exact rep_tupT (.inr ⟨_, its, m, hq, rfl, rfl, h2, rv⟩) (hr Z)
      · cases h
    | _ => simp [repB] at h
  | .lst _, u, h => by
    cases u <;> simp [repB] at h
  | .ins _ _ _, u, h => by
    cases u <;> simp [repB] at h
  | .dct _ _, u, h => by
    cases u <;> simp [repB] at h
  | .loc _, u, h => by
    cases u <;> simp [repB] at h
  | .scr _, u, h => by
    cases u <;> simp [repB] at h
theorem repBs_ok : ∀ (ds : List D) (us : List Value), repBs K ds us = true → ∃ vs, Vals vs us ∧ ∀ Z, Reps K n Z ds vs
  | [], us, h => by
    cases us with
    | nil => exact ⟨[], .nil, fun Z => Reps.nil⟩
    | cons u us => simp [repBs] at h
  | d :: ds, us, h => by
    cases us with
    | nil => simp [repBs] at h
    | cons u us =>
      simp only [repBs, Bool.and_eq_true] at h
      obtain ⟨v, r1, h1⟩ := repB_ok d u h.1
      obtain ⟨vs, r2, h2⟩ := repBs_ok ds us h.2
      exact ⟨v :: vs, .cons r1 r2, fun Z => Reps.cons (h1 Z) (h2 Z)⟩
end
end
/-! ### the facts -/
def itys : List Ity := [.int, .bool, .str, .tup, .lst, .dct]
def kds : List Kd := [.non, .bl, .int, .str, .tup, .lst, .dct]
def Tb.ok (t : Tb) (K : PySem.W.Frag) : Bool :=
  (t.fns.all fun p => match p.2 with
    | none => (He.Fa.glo p.1).ok K && (He.Fa.keep p.1).ok K
    | some _ => true) &&
  ((t.cns.all fun p => match PySem.W.nsIn K mainGlobals p.1 with
    | some (some u) => repB K p.2 u
    | _ => false) &&
  ((t.fat.all fun p => (He.Fa.cls (nmF t.nms p.1)).ok K && p.2.all fun f => (He.Fa.noat (nmF t.nms p.1) (nmF t.nms f)).ok K) &&
  ((t.mts.all fun p => decide (t.fns.getD p.2.2 (Str.empty, none) = (nmF t.nms p.1, some (nmF t.nms p.2.1))) && ((He.Fa.cls (nmF t.nms p.1)).ok K && (He.Fa.meth (nmF t.nms p.1) (nmF t.nms p.2.1)).ok K)) &&
  ((t.ini.all fun p => decide (t.fns.getD p.2 (Str.empty, none) = (nmF t.nms p.1, some ("__init__" : Str))) && ((He.Fa.mkr (nmF t.nms p.1)).ok K && (He.Fa.glo (nmF t.nms p.1)).ok K)) &&
  ((frees.all fun x => (He.Fa.free x).ok K) &&
  ((t.exs.all fun c => (He.Fa.exc (nmF t.nms c)).ok K && ((He.Fa.glo (nmF t.nms c)).ok K && t.exs.all fun k => (He.Fa.exm (nmF t.nms c) (nmF t.nms k) (c == k || t.subs.contains (c, k))).ok K)) &&
  (t.cls.all fun c => (He.Fa.glo (nmF t.nms c)).ok K && ((He.Fa.cls (nmF t.nms c)).ok K && (decide (PySem.W.findIn K (.ref (He.ga K (nmF t.nms c))) "__class__" = some (some (.builtin "object.__class__"))) &&
    (decide (PySem.W.specialIn K (.builtin "object.__class__") "__get__" = some (some (.builtin "getset_descriptor.__get__"))) && (decide (PySem.W.takesIn K (.builtin "object.__class__") = some true) && (decide (PySem.W.mroIn K (He.ga K (nmF t.nms c)) (.type "object") = some true) &&
    ((itys.all fun y => decide (PySem.W.kitOne K (.ref (He.ga K (nmF t.nms c))) (ityV K t.n y) = some false)) && ((kds.all fun k => decide (PySem.W.kitOne K (kdV K t.n k) (.ref (He.ga K (nmF t.nms c))) = some false)) &&
    (t.cls.all fun k => decide (PySem.W.kitOne K (.ref (He.ga K (nmF t.nms c))) (.ref (He.ga K (nmF t.nms k))) = some (decide (c = k))))))))))))))))))
theorem kit_base {K : PySem.W.Frag} {n : Nm} : ∀ y ∈ itys, ∀ k ∈ kds, PySem.W.kitOne K (kdV K n k) (ityV K n y) = some (kitF y k) := by
  intro y hy k hk
  have cases_y : y = .int ∨ y = .bool ∨ y = .str ∨ y = .tup ∨ y = .lst ∨ y = .dct := by simpa [itys] using hy
  have cases_k : k = .non ∨ k = .bl ∨ k = .int ∨ k = .str ∨ k = .tup ∨ k = .lst ∨ k = .dct := by simpa [kds] using hk
  rcases cases_y with rfl | rfl | rfl | rfl | rfl | rfl <;> rcases cases_k with rfl | rfl | rfl | rfl | rfl | rfl | rfl <;> exact kit_ty (by decide +kernel)
theorem ba2 {a b : Bool} (h : (a && b) = true) : a = true ∧ b = true := by simpa using h
theorem fc_of {t : Tb} {fs : Nat → Option Fd} {K : PySem.W.Frag} {h : Heap} {mg : Str → Option Value} (KX : K.In h) (G : h.Ns mainGlobals mg) (hN : t.nms.Nodup) (hL : t.nms.all low = true) (hf : ∀ i d, fs i = some d → i < t.fns.length) (c : t.ok K = true) : Fc t.n t.g fs K mg := by
  unfold Tb.ok at c
  obtain ⟨c1, c⟩ := ba2 c
  obtain ⟨c2, c⟩ := ba2 c
  obtain ⟨c3, c⟩ := ba2 c
  obtain ⟨c4, c⟩ := ba2 c
  obtain ⟨c5, c⟩ := ba2 c
  obtain ⟨c6, c⟩ := ba2 c
  obtain ⟨c7, c8⟩ := ba2 c
  rw [List.all_eq_true] at c1 c2 c3 c4 c5 c6 c7 c8
  refine ⟨nmF_inj hN hL, fun k f hk => ?_, fun k m i hk => ?_, fun k i hk => ?_, fun i d x hd hx => ?_, fun i d hd => ?_, fun x hx => He.free_ok KX G (c6 x hx), fun y k hy hk => ?_, fun k hk => ?_, fun k hk => ?_, fun a b ha hb => ?_⟩
  · have hk : f ∈ ((t.fat.find? fun q => q.1 == k).map (·.2)).getD [] := hk
    cases q : t.fat.find? fun q => q.1 == k with
    | none =>
      rw [q] at hk
      cases hk
    | some p =>
      rw [q] at hk
      have hk2 : f ∈ p.2 := hk
      have e : p.1 = k := by simpa using List.find?_some q
      obtain ⟨d1, d2⟩ := ba2 (c3 p (List.mem_of_find?_eq_some q))
      rw [List.all_eq_true] at d2
      subst e
      exact ⟨He.cls_ok d1, He.noat_ok (d2 f hk2)⟩
  · have hk : (t.mts.find? fun q => q.1 == k && q.2.1 == m).map (·.2.2) = some i := hk
    obtain ⟨p, q, e⟩ := Option.map_eq_some_iff.mp hk
    have e1 := List.find?_some q
    simp only [Bool.and_eq_true, beq_iff_eq] at e1
    obtain ⟨d1, d2⟩ := ba2 (c4 p (List.mem_of_find?_eq_some q))
    obtain ⟨d2, d3⟩ := ba2 d2
    have d1 := of_decide_eq_true d1
    obtain ⟨e1, e2⟩ := e1
    subst e1 e2 e
    refine ⟨He.cls_ok d2, ?_⟩
    show Meth K _ _ (He.fAd K (t.fns.getD p.2.2 (Str.empty, none)))
    rw [d1]
    exact He.meth_ok d3
  · have hk : (t.ini.find? fun q => q.1 == k).map (·.2) = some i := hk
    obtain ⟨p, q, e⟩ := Option.map_eq_some_iff.mp hk
    have e1 : p.1 = k := by simpa using List.find?_some q
    obtain ⟨d1, d2⟩ := ba2 (c5 p (List.mem_of_find?_eq_some q))
    obtain ⟨d2, d3⟩ := ba2 d2
    have d1 := of_decide_eq_true d1
    subst e1 e
    refine ⟨?_, He.glo_ok KX G d3⟩
    show Mk K _ (He.fAd K (t.fns.getD p.2 (Str.empty, none)))
    rw [d1]
    exact He.mkr_ok d2
  · have hi := hf i d hd
    have hx : t.fns.getD i (Str.empty, none) = (x, none) := hx
    have hm : (x, none) ∈ t.fns := by
      rw [List.getD_eq_getElem?_getD, List.getElem?_eq_getElem hi] at hx
      have hx : t.fns[i] = (x, none) := hx
      rw [← hx]
      exact List.getElem_mem hi
    have d1 := c1 _ hm
    obtain ⟨d1, d2⟩ := ba2 d1
    have e : He.fAd K (t.n.fn i) = He.ga K x := by
      show He.fAd K (t.fns.getD i (Str.empty, none)) = He.ga K x
      rw [hx]
      rfl
    rw [e]
    exact ⟨He.glo_ok KX G d1, He.keep_ok d2⟩
  · have hd : (t.cns[i]?).map (·.2) = some d := hd
    obtain ⟨p, q, e⟩ := Option.map_eq_some_iff.mp hd
    have d1 := c2 p (List.mem_of_getElem? q)
    have en : t.n.cn i = p.1 := by
      show (t.cns.getD i (Str.empty, .non)).1 = p.1
      rw [List.getD_eq_getElem?_getD, q]
      rfl
    rw [en]
    cases qn : PySem.W.nsIn K mainGlobals p.1 with
    | none =>
      rw [qn] at d1
      cases d1
    | some o =>
      rw [qn] at d1
      cases o with
      | none => cases d1
      | some u =>
        obtain ⟨v, r1, r2⟩ := repB_ok (n := t.n) p.2 u d1
        subst e
        exact ⟨u, v, PySem.W.mg_of KX G qn, r1, r2⟩
  · have base : ∀ y k, (y ∈ itys) → (k ∈ kds) → PySem.W.kitOne K (kdV K t.n k) (ityV K t.n y) = some (kitF y k) := fun y k hy hk => kit_base y hy k hk
    have own : ∀ q, q ∈ t.cls → (∀ y ∈ itys, PySem.W.kitOne K (.ref (He.ga K (nmF t.nms q))) (ityV K t.n y) = some false) ∧ (∀ k ∈ kds, PySem.W.kitOne K (kdV K t.n k) (.ref (He.ga K (nmF t.nms q))) = some false) ∧
        ∀ k ∈ t.cls, PySem.W.kitOne K (.ref (He.ga K (nmF t.nms q))) (.ref (He.ga K (nmF t.nms k))) = some (decide (q = k)) := fun q hq => by
      have d := c8 q hq
      simp only [Bool.and_eq_true, decide_eq_true_eq, List.all_eq_true] at d
      exact ⟨d.2.2.2.2.2.2.1, d.2.2.2.2.2.2.2.1, d.2.2.2.2.2.2.2.2⟩
    cases y with
    | cls a =>
      have ha : a ∈ t.cls := of_decide_eq_true hy
      cases k with
      | cls b =>
        have hb : b ∈ t.cls := of_decide_eq_true hk
        exact (own b hb).2.2 a ha
      | _ => exact (own a ha).2.1 _ (by simp [kds])
    | _ =>
      cases k with
      | cls b =>
        have hb : b ∈ t.cls := of_decide_eq_true hk
        exact (own b hb).1 _ (by simp [itys])
      | _ => exact base _ _ (by simp [itys]) (by simp [kds])
  · have d := c8 k hk
    simp only [Bool.and_eq_true, decide_eq_true_eq] at d
    exact ⟨He.glo_ok KX G d.1, He.cls_ok d.2.1, d.2.2.1, d.2.2.2.1, d.2.2.2.2.1, d.2.2.2.2.2.1⟩
  · obtain ⟨b, hb⟩ := hk
    have hb : (t.exs.contains k && (t.exs.contains b && (k == b || t.subs.contains (k, b)))) = true := hb
    have hm : k ∈ t.exs := by simpa using (ba2 hb).1
    obtain ⟨d1, d2⟩ := ba2 (c7 k hm)
    obtain ⟨d2, d3⟩ := ba2 d2
    obtain ⟨e1, e2, e3, e4⟩ := He.exc_ok d1
    exact ⟨e1, e2, e3, e4, He.glo_ok KX G d2⟩
  · have ha : (t.exs.contains a && (t.exs.contains a && (a == a || t.subs.contains (a, a)))) = true := ha
    have hb : (t.exs.contains b && (t.exs.contains b && (b == b || t.subs.contains (b, b)))) = true := hb
    have ma : a ∈ t.exs := by simpa using (ba2 ha).1
    have mb : b ∈ t.exs := by simpa using (ba2 hb).1
    obtain ⟨d1, d2⟩ := ba2 (c7 a ma)
    obtain ⟨d2, d3⟩ := ba2 d2
    rw [List.all_eq_true] at d3
    have e := He.exm_ok (d3 b mb)
    have es : t.g.sub a b = (a == b || t.subs.contains (a, b)) := by
      show (t.exs.contains a && (t.exs.contains b && (a == b || t.subs.contains (a, b)))) = _
      rw [(ba2 ha).1, (ba2 hb).1]
      rfl
    rw [es]
    exact e
/-! ### defs -/
/-- a def: the text's, its names, its parameters, the small language's -/
structure Dd where
  d : He.DefD
  N : List Str
  ps : List Str
  f : Fd
def scOk (N ps : List Str) (sc : Scope) : Bool := decide (sc.kind = .function) && (decide (sc.isCoroutine = false) && (decide (sc.isGenerator = false) && (decide N.Nodup && (decide (N.take ps.length = ps) &&
  ((ps.all fun x => decide (sc.names.lookup x = some .local) || decide (sc.names.lookup x = some .cell)) && sc.names.all fun y => decide (y.2 ≠ .free))))))
theorem scOk_of {N ps : List Str} {sc : Scope} (h : scOk N ps sc = true) : FnScope N ps sc := by
  unfold scOk at h
  simp only [Bool.and_eq_true, decide_eq_true_eq, List.all_eq_true, Bool.or_eq_true] at h
  exact ⟨h.1, h.2.1, h.2.2.1, h.2.2.2.1, h.2.2.2.2.1, h.2.2.2.2.2.1, h.2.2.2.2.2.2⟩
def Dd.ok (n : Nm) (g : G) (fs : Nat → Option Fd) (x : Dd) : Bool := chkSs n g fs x.f.body ⟨x.N, x.d.scope⟩ x.d.body && (decide (x.f.np = x.ps.length) && (decide (x.f.nn = x.N.length) && scOk x.N x.ps x.d.scope))
section
variable {P : Program} {w : World} {K : PySem.W.Frag} {mg : Str → Option Value} {base : Heap} {n : Nm} {g : G} {fs : Nat → Option Fd}
/-- what is known of each def -/
def Known (K : PySem.W.Frag) (n : Nm) (g : G) (fs : Nat → Option Fd) : Prop := ∀ i d, fs i = some d → ∃ (x : Dd) (fdv : FuncData), x.f = d ∧ x.ok n g fs = true ∧ FunD K x.d.name x.d.qual x.d.params x.d.body x.d.scope [] [] (He.fAd K (n.fn i)) fdv ∧ Binds K fdv x.ps []
theorem start_rel {Z : Hp} {ds : List D} {vs : List V} {N : List Str} {nn : Nat} (h : nn = N.length) (r : Reps K n Z ds vs) : ERel K n Z (startE nn ds) (L2.start N vs) := by
  have hl := r.length
  refine ⟨?_, fun i d hi => ?_⟩
  · unfold startE L2.start
    simp only [List.length_append, List.length_map, List.length_replicate]
    omega
  · unfold startE at hi
    unfold L2.start
    rcases Nat.lt_or_ge i ds.length with q | q
    · rw [List.getElem?_append_left (by rw [List.length_map]; exact q), List.getElem?_map] at hi
      rw [List.getElem?_append_left (by rw [List.length_map]; omega), List.getElem?_map]
      cases e : ds[i]? with
      | none =>
        rw [e] at hi
        cases hi
      | some d2 =>
        rw [e] at hi
        cases hi
        obtain ⟨v, h1, h2⟩ := r.get e
        exact ⟨v, by rw [h1]; rfl, h2⟩
    · rw [List.getElem?_append_right (by rw [List.length_map]; exact q)] at hi
      rw [List.getElem?_replicate] at hi
      split at hi
      · cases hi
      · cases hi
theorem fn_one (fc : Fc n g fs K mg) {l i : Nat} {x : Dd} {fdv : FuncData} (ih : ∀ j d, fs j = some d → ∃ fd ps, FnOk P w K mg base (L2.CX P w) (2 * l) (He.fAd K (n.fn j)) fd ps (spF K n g fs l j) ∧ Binds K fd ps []) (hd : fs i = some x.f) (e2 : x.ok n g fs = true)
    (F : FunD K x.d.name x.d.qual x.d.params x.d.body x.d.scope [] [] (He.fAd K (n.fn i)) fdv) : FnOk P w K mg base (L2.CX P w) (2 * (l + 1)) (He.fAd K (n.fn i)) fdv x.ps (spF K n g fs (l + 1) i) := by
  unfold Dd.ok at e2
  simp only [Bool.and_eq_true, decide_eq_true_eq] at e2
  obtain ⟨h1, h2, h3, h4⟩ := e2
  have S := scOk_of h4
  have goal : FnOk P w K mg base (L2.CX P w) ((2 * l + 1) + 1) (He.fAd K (n.fn i)) fdv x.ps (spF K n g fs (l + 1) i) := by
    refine F.ok S (fun vs H Q E ⟨Z, M, ds, Qd, xq, R, r, wf, _⟩ => ?_) (fun cdv A outer s H vs Q E hr hsp => ?_)
    · obtain ⟨d2, e, hl, _⟩ := opt_elim wf
      rw [hd] at e
      cases e
      rw [r.length, hl, h2]
    · obtain ⟨Z, M, ds, Qd, xq, R, r, wf, k, kx⟩ := hsp
      obtain ⟨d2, e, hl, ws⟩ := opt_elim wf
      rw [hd] at e
      cases e
      have ok : Ok n g fs l (cxOf (L2.CX P w) P w K mg base x.N x.d.qual x.d.scope (He.fAd K (n.fn i)) cdv A outer s H E) ⟨x.N, x.d.scope⟩ := by
        refine ⟨fc, rfl, S.nd, rfl, hr, fun y kd hy hk => ?_, fun y kd hy hk => ?_, fun y kd hy hk => ?_, fun y hy => hy, fun j d hj => ih j d hj⟩
        · rcases hk with rfl | rfl | rfl
          · exact .inl hy
          · exact .inr (.inl hy)
          · exact .inr (.inr hy)
        · rcases hk with rfl | rfl
          · exact ⟨.inl hy, .inl rfl⟩
          · exact ⟨.inr hy, .inl rfl⟩
        · rcases hk with rfl | rfl
          · exact .inl hy
          · exact .inr hy
      have sk : Sk n g fs l (cxOf (L2.CX P w) P w K mg base x.N x.d.qual x.d.scope (He.fAd K (n.fn i)) cdv A outer s H E) ⟨x.N, x.d.scope⟩ := ⟨ok, rfl, S.kind, passes_of rfl, rfl, rfl⟩
      refine ⟨_, sSs x.f.body _ _ (fun cls d _ H => E cls d H) x.d.body sk (takes_of rfl rfl rfl rfl) h1, Z, _, M, _, R, start_rel h3 r, ws, ?_⟩
      exact ⟨fun Z1 M1 H1 env1 σ1 s1 R1 er1 q => k Z1 _ H1 .non .non s1 (drop_rel R1) rep_non q, fun Z1 M1 H1 d v s1 R1 r1 q => k Z1 M1 H1 d v s1 R1 r1 q, fun _ _ _ _ _ _ _ _ q => q.elim, fun _ _ _ _ _ _ _ _ q => q.elim, fun Z1 M1 H1 env1 σ1 x s1 R1 er1 q => kx Z1 M1 H1 x s1 R1 q⟩
  exact goal
theorem fn_levels (fc : Fc n g fs K mg) (hk : Known K n g fs) : ∀ l i d, fs i = some d → ∃ fd ps, FnOk P w K mg base (L2.CX P w) (2 * l) (He.fAd K (n.fn i)) fd ps (spF K n g fs l i) ∧ Binds K fd ps [] := by
  intro l
  induction l with
  | zero =>
    intro i d hd
    obtain ⟨x, fdv, e1, e2, F, hb⟩ := hk i d hd
    have no : ∀ vs H Q E, spF K n g fs 0 i vs H Q E → False := fun vs H Q E ⟨Z, M, ds, Qd, xq, R, r, w, _⟩ => w.elim
    exact ⟨fdv, x.ps, ⟨fun vs H Q E h => (no vs H Q E h).elim, fun A outer s H args us vs Q E _ _ _ _ h => (no vs H Q E h).elim⟩, hb⟩
  | succ l ih =>
    intro i d hd
    obtain ⟨x, fdv, e1, e2, F, hb⟩ := hk i d hd
    subst e1
    exact ⟨fdv, x.ps, fn_one fc ih hd e2 F, hb⟩
end
end Lw

set_option Elab.async false
set_option linter.all false
set_option maxRecDepth 100000
set_option maxHeartbeats 2000000
/-! Lw22: the head's facts by one Bool, and the law's def. -/
namespace Lw
open PySem PySem.Spec PyProof.Rows L2

/-- how a def binds its arguments -/
def BindP (x : Dd) : Prop := ∀ (kV doc pm : Value) (an : Option Addr) (cdv ct : Value) (us : List Value), us.length = x.ps.length → bindArgs (PySem.W.fnOf x.d.name x.d.qual x.d.params x.d.body x.d.scope .none kV doc pm an cdv ct) ⟨us, []⟩ = pure (x.ps.zip us)
def fnD (dds : List Dd) : List He.DefD := dds.map (·.d)
def obsL (t : Tb) (dds : List Dd) (K : PySem.W.Frag) : He.AlD := (t.ok K && (fnD dds).all fun d => d.ok K, (fnD dds).map fun d => He.fnW K d.at_)
/-- what these objects name -/
def refsAt (f : Addr → Option Obj) (as : List Addr) : List Addr := as.flatMap fun a => match f a with
  | some o => (He.refsD o).filter fun b => !(b == a)
  | none => []
def asN (f : Addr → Option Obj) : Nat → List Addr → List Addr
  | 0, as => as
  | k + 1, as => as ++ asN f k (refsAt f as)
def obsLG (k : Nat) (t : Tb) (dds : List Dd) (f : Addr → Option Obj) : He.AlD := obsL t dds (He.frG f (asN f k [mainGlobals]))
def SaysL (t : Tb) (dds : List Dd) (K : PySem.W.Frag) : Prop := obsL t dds K = He.valD (fnD dds)
def hookL (k : Nat) (t : Tb) (dds : List Dd) : PySem.W.Hook where
  α := He.AlD
  obs := fun s => obsLG k t dds s.heap.get?
  val := fun _ => He.valD (fnD dds)
  says := fun _ h => ∃ K : PySem.W.Frag, K.In h ∧ SaysL t dds K
  of := fun _ _ e => ⟨_, He.frG_in, e⟩
  keeps := fun _ _ _ ⟨K, hK, c⟩ k => ⟨K, PySem.W.Frag.In.keeps hK k, c⟩
theorem obsLG_eq {k : Nat} {t : Tb} {dds : List Dd} {f : Addr → Option Obj} {s : Shared} (h : ∀ a, f a = s.heap.get? a) : obsLG k t dds f = (hookL k t dds).obs s := by
  have e : f = s.heap.get? := funext h
  rw [e]
  rfl
def fsOf (dds : List Dd) (i : Nat) : Option Fd := (dds[i]?).map (·.f)
/-- the tables fit -/
def fits (t : Tb) (dds : List Dd) : Bool := decide (dds.map (fun x => x.d.at_) = t.fns) && (decide t.nms.Nodup && (t.nms.all low && dds.all fun x => x.d.dfl.isEmpty && x.d.kwd.isEmpty))
def chkAll (t : Tb) (dds : List Dd) : Bool := dds.all fun x => x.ok t.n t.g (fsOf dds)
section
variable {P : Program} {w : World} {K : PySem.W.Frag} {mg : Str → Option Value} {base : Heap} {t : Tb} {dds : List Dd}
theorem known_at (hf : fits t dds = true) (c : SaysL t dds K) {i : Nat} {x : Dd} (hx : dds[i]? = some x) : t.n.fn i = x.d.at_ ∧ ∃ fdv, FunD K x.d.name x.d.qual x.d.params x.d.body x.d.scope [] [] (He.fAd K (t.n.fn i)) fdv := by
  have hm := List.mem_of_getElem? hx
  unfold fits at hf
  obtain ⟨f1, hf⟩ := ba2 hf
  obtain ⟨f2, hf⟩ := ba2 hf
  obtain ⟨f3, f4⟩ := ba2 hf
  have f1 := of_decide_eq_true f1
  have f4 := List.all_eq_true.mp f4 x hm
  obtain ⟨f4, f5⟩ := ba2 f4
  have c1 : (t.ok K && (fnD dds).all fun d => d.ok K) = true := congrArg (fun z : He.AlD => z.1) c
  have c2 : (fnD dds).map (fun d => He.fnW K d.at_) = (fnD dds).map He.DefD.val := congrArg (fun z : He.AlD => z.2) c
  have hx2 : (fnD dds)[i]? = some x.d := by
    unfold fnD
    rw [List.getElem?_map, hx]
    rfl
  have e2 : ((fnD dds).map fun d => He.fnW K d.at_)[i]? = ((fnD dds).map He.DefD.val)[i]? := by rw [c2]
  rw [List.getElem?_map, List.getElem?_map, hx2] at e2
  have e3 : He.fnW K x.d.at_ = x.d.val := Option.some.inj e2
  obtain ⟨fdv, F⟩ := He.DefD.funD e3 (List.all_eq_true.mp (ba2 c1).2 x.d (List.mem_of_getElem? hx2))
  have d1 : x.d.dvs K = [] := by
    unfold He.DefD.dvs
    rw [List.isEmpty_iff.mp f4]
    rfl
  have d2 : x.d.kws K = [] := by
    unfold He.DefD.kws
    rw [List.isEmpty_iff.mp f5]
    rfl
  rw [d1, d2] at F
  have ea : t.n.fn i = x.d.at_ := by
    show t.fns.getD i (Str.empty, none) = _
    rw [← f1, List.getD_eq_getElem?_getD, List.getElem?_map, hx]
    rfl
  refine ⟨ea, fdv, ?_⟩
  rw [ea]
  exact F
theorem known_of (hf : fits t dds = true) (hc : chkAll t dds = true) (hb : ∀ x ∈ dds, BindP x) (c : SaysL t dds K) : Known K t.n t.g (fsOf dds) := by
  intro i d hd
  obtain ⟨x, hx, e⟩ := Option.map_eq_some_iff.mp (show (dds[i]?).map (·.f) = some d from hd)
  have hm := List.mem_of_getElem? hx
  obtain ⟨_, fdv, F⟩ := known_at hf c hx
  exact ⟨x, fdv, e, List.all_eq_true.mp hc x hm, F, F.bindsN (hb x hm)⟩
/-- the script lies in the heap -/
theorem scr_rel {n : Nm} {H : Hp} {a : Addr} {ns : List Int} (h : SqL K H a (ns.map V.int)) : ∃ Z, Rel K n Z (fun _ => none) H ∧ Rep K n Z (.scr ns) (.ref a) := by
  have no : ∀ Z, (∀ b o, Z b = some o → H b = some (unmk o)) → Rel K n Z (fun _ => none) H := fun Z hz => ⟨hz, fun b o e => by cases e⟩
  rcases h with (h | ⟨o, h⟩) | h
  · refine ⟨upd (fun _ => none) a (.lst (ns.map V.int)), no _ fun b o e => ?_, ?_⟩
    · by_cases q : b = a
      · subst q
        rw [upd_same] at e
        cases e
        exact h
      · rw [upd_ne q] at e
        cases e
    · unfold Rep
      exact ⟨a, rfl, .inl (.inl upd_same)⟩
  · refine ⟨upd (fun _ => none) a (.frz o (.lst (ns.map V.int))), no _ fun b u e => ?_, ?_⟩
    · by_cases q : b = a
      · subst q
        rw [upd_same] at e
        cases e
        exact h
      · rw [upd_ne q] at e
        cases e
    · unfold Rep
      exact ⟨a, rfl, .inl (.inr ⟨o, upd_same⟩)⟩
  · refine ⟨fun _ => none, no _ (fun b o e => by cases e), ?_⟩
    unfold Rep
    exact ⟨a, rfl, .inr h⟩
/-- the law's def, from the plain law -/
theorem law_of {i l : Nat} {x : Dd} {fa : Addr} {h : Heap} (hf : fits t dds = true) (hc : chkAll t dds = true) (hb : ∀ x ∈ dds, BindP x) (hx : dds[i]? = some x) (hat : x.d.at_ = (("law" : Str), none)) (hps : x.ps = [("script" : Str)])
    (KX : K.In h) (G : h.Ns mainGlobals mg) (hmg : mg ("law" : Str) = some (.ref fa)) (c : SaysL t dds K)
    (plain : ∀ ns : List Int, ns.length ≤ 63 → wpF t.g (fsOf dds) l i [.scr ns] (fun _ => none) (fun d _ => d = .bl true) (fun _ _ => False)) :
    ∃ (fd : FuncData) (sp : Sp), (∀ (s : Shared) (u : Value), BindsTo s fd ⟨[u], []⟩ [(("script" : Str), u)]) ∧
        (∀ (H : Hp) (a : Addr) (ns : List Int), ns.length ≤ 63 → SqL K H a (ns.map V.int) → sp [.ref a] H (fun v _ => v = .bl true) fun _ _ _ => False) ∧
        ∀ base : Heap, FnOk P w K mg base (L2.CX P w) (2 * l) fa fd [("script" : Str)] sp := by
  have hk := known_of hf hc hb c
  have c1 : (t.ok K && (fnD dds).all fun d => d.ok K) = true := congrArg (fun z : He.AlD => z.1) c
  have hf2 := hf
  unfold fits at hf2
  obtain ⟨f1, hf2⟩ := ba2 hf2
  obtain ⟨f2, hf2⟩ := ba2 hf2
  obtain ⟨f3, f4⟩ := ba2 hf2
  have f1 := of_decide_eq_true f1
  have fc : Fc t.n t.g (fsOf dds) K mg := fc_of KX G (of_decide_eq_true f2) f3 (fun j d hd => by
    obtain ⟨y, hy, e⟩ := Option.map_eq_some_iff.mp (show (dds[j]?).map (·.f) = some d from hd)
    have := (List.getElem?_eq_some_iff.mp hy).1
    rw [← f1, List.length_map]
    exact this) (ba2 c1).1
  have hd : fsOf dds i = some x.f := by
    unfold fsOf
    rw [hx]
    rfl
  have ea : t.n.fn i = (("law" : Str), none) := by
    show t.fns.getD i (Str.empty, none) = _
    rw [← f1, List.getD_eq_getElem?_getD, List.getElem?_map, hx]
    exact hat
  obtain ⟨hm, _⟩ := fc.fn i x.f "law" hd ea
  rw [hmg] at hm
  have efa : fa = He.fAd K (t.n.fn i) := by
    injection hm with hm
    injection hm
  subst efa
  obtain ⟨_, fdv, F⟩ := known_at hf c hx
  have hm2 := List.mem_of_getElem? hx
  cases l with
  | zero => exact (plain [] (Nat.zero_le _)).elim
  | succ l =>
    refine ⟨fdv, spF K t.n t.g (fsOf dds) (l + 1) i, fun s u => ?_, fun H a ns hl hS => ?_, fun base => ?_⟩
    · have b := F.bindsA (ps := x.ps) (hb x hm2) s [u] (by rw [hps]; rfl)
      rw [hps] at b
      exact b
    · obtain ⟨Z, R, r⟩ := scr_rel (n := t.n) hS
      exact ⟨Z, _, [.scr ns], _, _, R, Reps.one r, plain ns hl, fun Z1 M1 H1 d v s1 R1 r1 q => by
        rw [q] at r1
        unfold Rep at r1
        exact r1, fun _ _ _ _ _ _ q => q.elim⟩
    · have q := fn_one (P := P) (w := w) (base := base) fc (fn_levels fc hk l) hd (List.all_eq_true.mp hc x hm2) F
      rw [hps] at q
      exact q
end
end Lw

set_option Elab.async false
set_option linter.all false
set_option maxRecDepth 100000
/-! Wp: how a plain law is proved: rules for simp, one a form (the head first), and rules for loops, comprehensions, new objects. -/
namespace Wp
open PySem L2 Lw

/-- what simp is not to look into -/
inductive Hid {α : Sort u} (a : α) : Type where
  | mk
def callH (cl : Calls) (f : Nat) (ds : List D) (M : Mem) (Q : DK1) (X : XK1) (_ : Hid Q) (_ : Hid X) : Prop := cl f ds M Q X
def newH (o : MO) (M : Mem) (Q : DK1) (_ : Hid Q) : Prop := ∀ a, M a = none → Q (.loc a) (M.set a o)
def makeH (g : G) (cl : Calls) (c : Nat) (fz : Bool) (ds : List D) (M : Mem) (Q : DK1) (X : XK1) (_ : Hid Q) (_ : Hid X) : Prop :=
  ∀ a, M a = none → opt (g.ini c) fun f => cl f (.loc a :: ds) (M.set a (.ins c [] [])) (fun v M2 => v = .non ∧
      match fz with
      | true => opt (frzF M2 (.loc a)) fun p => Q p.1 p.2
      | false => Q (.loc a) M2) X
def turnF (g : G) (cl : Calls) (tg : Tg) (body : Ss) (P : Post) : D → DEnv → Mem → (DEnv → Mem → Prop) → Prop :=
  fun d e m k => wpTg g cl tg d e m (fun e' m' => wpSs g cl body e' m' ⟨k, P.rt, P.nx, k, P.xc⟩) (fun x m => P.xc x e m)
def forH (g : G) (cl : Calls) (tg : Tg) (body : Ss) (P : Post) (gd : Guard) (items : List D) (env : DEnv) (M : Mem) (_ : Hid tg) (_ : Hid body) (_ : Hid P) (_ : Hid gd) : Prop :=
  forLoop gd (turnF g cl tg body P) P.nx items env M
def whH (g : G) (cl : Calls) (c : T) (body : Ss) (P : Post) (env : DEnv) (M : Mem) (_ : Hid c) (_ : Hid body) (_ : Hid P) : Prop :=
  ∃ n, whLoop (fun e m k => wpT g cl c e m (fun z m1 => if z = true then wpSs g cl body e m1 ⟨k, P.rt, P.nx, k, P.xc⟩ else P.nx e m1) (fun x m => P.xc x e m)) n env M
def turnL (g : G) (cl : Calls) (own : List Nat) (tg : Tg) (t : Ot) (elt : E) (env : DEnv) : D → Mem → (Option D → Mem → Prop) → Prop :=
  fun d M2 k => wpTg g cl tg d (wipeE env own) M2 (fun env' M3 =>
      wpTO g cl t env' M3 (fun z M4 => if z = true then wpE g cl elt env' M4 (fun y M5 => k (some y) M5) (fun _ _ => False) else k none M4) (fun _ _ => False)) (fun _ _ => False)
def lcH (g : G) (cl : Calls) (m : Bool) (own : List Nat) (tg : Tg) (t : Ot) (elt : E) (gd : Guard) (items : List D) (env : DEnv) (M : Mem) (Q : DK1) (_ : Hid own) (_ : Hid tg) (_ : Hid t) (_ : Hid elt) (_ : Hid gd) (_ : Hid Q) : Prop :=
  lcLoop gd (turnL g cl own tg t elt env) (fun acc M2 => fin m (.lst acc) M2 Q) items [] M

def vr : DEnv → Nat → Option D
  | [], _ => none
  | o :: _, 0 => o
  | _ :: os, i + 1 => vr os i
theorem vr_eq : ∀ (env : DEnv) (i : Nat), env[i]?.join = vr env i
  | [], i => by simp [vr]
  | o :: os, 0 => by simp [vr]
  | o :: os, i + 1 => by
    simp only [List.getElem?_cons_succ, vr]
    exact vr_eq os i
def bO : D → Option Bool
  | .bl b => some b
  | _ => none
def iO : D → Option Int
  | .int b => some b
  | _ => none
def optH {α : Type} (o : Option α) (k : α → Prop) (_ : Hid k) : Prop := opt o k
theorem opt_un {α : Type} {o : Option α} {k : α → Prop} : opt o k = optH o k .mk := rfl
theorem optH_some {α : Type} {a : α} {k : α → Prop} {h : Hid k} : optH (some a) k h = k a := rfl
theorem optH_none {α : Type} {k : α → Prop} {h : Hid k} : optH none k h = False := rfl

section
variable {g : G} {cl : Calls} {env : DEnv} {M : Mem} {Q : DK1} {X : XK1} {P : Post}
/-! ### expressions -/
theorem u_var {i : Nat} : wpE g cl (.var i) env M Q X = optH (vr env i) (fun d => Q d M) .mk := by
  rw [← vr_eq]
  rfl
theorem u_cst {d : D} : wpE g cl (.cst d) env M Q X = Q d M := rfl
theorem u_glb {i : Nat} : wpE g cl (.glb i) env M Q X = opt (g.con i) fun d => Q d M := rfl
theorem u_fld {e : E} {f : Nat} : wpE g cl (.fld e f) env M Q X = wpE g cl e env M (fun d M1 => opt (fldF g (deref M1 d) f) fun v => Q v M1) X := rfl
theorem u_bin {m : Bool} {op : Bop} {a b : E} : wpE g cl (.bin m op a b) env M Q X = wpE g cl a env M (fun x M1 => wpE g cl b env M1 (fun y M2 => opt (binF op (deref M2 x) (deref M2 y)) fun z => fin m z M2 Q) X) X := rfl
theorem u_neg {a : E} : wpE g cl (.neg a) env M Q X = wpE g cl a env M (fun x M1 => opt (iO x) fun i => Q (.int (-i)) M1) X := by
  have e : wpE g cl (.neg a) env M Q X = wpE g cl a env M (fun x M1 => match x with
    | .int i => Q (.int (-i)) M1
    | _ => False) X := rfl
  rw [e]
  congr 1
  funext x M1
  cases x <;> rfl
theorem u_cmp {op : Cop} {a b : E} : wpE g cl (.cmp op a b) env M Q X = wpE g cl a env M (fun x M1 => wpE g cl b env M1 (fun y M2 => opt (cmpF op (deref M2 x) (deref M2 y)) fun z => Q (.bl z) M2) X) X := rfl
theorem u_chn {o1 o2 : Cop} {a b c : E} : wpE g cl (.chn o1 o2 a b c) env M Q X = wpE g cl a env M (fun x M1 => wpE g cl b env M1 (fun y M2 => opt (cmpF o1 (deref M2 x) (deref M2 y)) fun z =>
      if z = true then wpE g cl c env M2 (fun w M3 => opt (cmpF o2 (deref M3 y) (deref M3 w)) fun z => Q (.bl z) M3) X else Q (.bl false) M2) X) X := rfl
def nonD : D → Bool
  | .non => true
  | _ => false
def blD : D → Bool → Bool
  | .bl c, b => c == b
  | _, _ => false
theorem u_isN {a : E} : wpE g cl (.isN a) env M Q X = wpE g cl a env M (fun x M1 => Q (.bl (nonD x)) M1) X := by
  have e : wpE g cl (.isN a) env M Q X = wpE g cl a env M (fun x M1 => Q (.bl (match x with
    | .non => true
    | _ => false)) M1) X := rfl
  rw [e]
  congr 1
theorem u_notN {a : E} : wpE g cl (.notN a) env M Q X = wpE g cl a env M (fun x M1 => Q (.bl (!nonD x)) M1) X := by
  have e : wpE g cl (.notN a) env M Q X = wpE g cl a env M (fun x M1 => Q (.bl (match x with
    | .non => false
    | _ => true)) M1) X := rfl
  rw [e]
  congr 1
  funext x M1
  cases x <;> rfl
theorem u_isB {a : E} {b : Bool} : wpE g cl (.isB a b) env M Q X = wpE g cl a env M (fun x M1 => Q (.bl (blD x b)) M1) X := by
  have e : wpE g cl (.isB a b) env M Q X = wpE g cl a env M (fun x M1 => Q (.bl (match x with
    | .bl c => c == b
    | _ => false)) M1) X := rfl
  rw [e]
  congr 1
  funext x M1
  cases x <;> rfl
theorem u_and {a b : E} : wpE g cl (.and a b) env M Q X = wpE g cl a env M (fun x M1 => opt (bO x) fun z => if z = true then wpE g cl b env M1 Q X else Q (.bl false) M1) X := by
  have e : wpE g cl (.and a b) env M Q X = wpE g cl a env M (fun x M1 => match x with
    | .bl true => wpE g cl b env M1 Q X
    | .bl false => Q (.bl false) M1
    | _ => False) X := rfl
  rw [e]
  congr 1
  funext x M1
  cases x with
  | bl z => cases z <;> rfl
  | _ => rfl
theorem u_or {a b : E} : wpE g cl (.or a b) env M Q X = wpE g cl a env M (fun x M1 => opt (bO x) fun z => if z = true then Q (.bl true) M1 else wpE g cl b env M1 Q X) X := by
  have e : wpE g cl (.or a b) env M Q X = wpE g cl a env M (fun x M1 => match x with
    | .bl true => Q (.bl true) M1
    | .bl false => wpE g cl b env M1 Q X
    | _ => False) X := rfl
  rw [e]
  congr 1
  funext x M1
  cases x with
  | bl z => cases z <;> rfl
  | _ => rfl
theorem u_not {a : E} : wpE g cl (.not a) env M Q X = wpE g cl a env M (fun x M1 => opt (bO x) fun z => Q (.bl (!z)) M1) X := by
  have e : wpE g cl (.not a) env M Q X = wpE g cl a env M (fun x M1 => match x with
    | .bl b => Q (.bl (!b)) M1
    | _ => False) X := rfl
  rw [e]
  congr 1
  funext x M1
  cases x <;> rfl
theorem u_ite {c : T} {a b : E} : wpE g cl (.ite c a b) env M Q X = wpT g cl c env M (fun z M1 => if z = true then wpE g cl a env M1 Q X else wpE g cl b env M1 Q X) X := rfl
theorem u_tup {es : Es} : wpE g cl (.tup es) env M Q X = wpEs g cl es env M (fun ds M1 => ds.length ≤ lim ∧ Q (.tup ds) M1) X := rfl
theorem u_lst {m : Bool} {es : Es} : wpE g cl (.lst m es) env M Q X = wpEs g cl es env M (fun ds M1 => ds.length ≤ lim ∧ fin m (.lst ds) M1 Q) X := rfl
theorem u_dct0 {m : Bool} : wpE g cl (.dct m .nil .nil) env M Q X = fin m (.dct [] []) M Q := rfl
theorem u_dct1 {m : Bool} {k v : E} : wpE g cl (.dct m (.cons k .nil) (.cons v .nil)) env M Q X = wpE g cl k env M (fun x M1 => wpE g cl v env M1 (fun y M2 => opt (keyF x) fun q => fin m (.dct [q] [y]) M2 Q) X) X := rfl
theorem u_call {f : Nat} {es : Es} : wpE g cl (.call f es) env M Q X = wpEs g cl es env M (fun ds M1 => callH cl f ds M1 Q X .mk .mk) X := rfl
theorem u_make {c : Nat} {fz : Bool} {es : Es} : wpE g cl (.make c fz es) env M Q X = wpEs g cl es env M (fun ds M1 => makeH g cl c fz ds M1 Q X .mk .mk) X := rfl
theorem u_meth {m : Nat} {o : E} {es : Es} : wpE g cl (.meth m o es) env M Q X = wpE g cl o env M (fun d M1 => opt (mthF g (deref M1 d) m) fun f => wpEs g cl es env M1 (fun ds M2 => callH cl f (d :: ds) M2 Q X .mk .mk) X) X := rfl
theorem u_bi {m : Bool} {b : Bi} {es : Es} : wpE g cl (.bi m b es) env M Q X = wpEs g cl es env M (fun ds M1 => opt (biF g b (ds.map (deref M1))) fun z => fin m z M1 Q) X := rfl
theorem u_bm {m : Bool} {b : Bm} {o : E} {es : Es} : wpE g cl (.bm m b o es) env M Q X = wpE g cl o env M (fun d M1 => bmT b (deref M1 d) = true ∧ wpEs g cl es env M1 (fun ds M2 => bmW m b d ds M2 Q) X) X := rfl
theorem u_idx {a b : E} : wpE g cl (.idx a b) env M Q X = wpE g cl a env M (fun x M1 => wpE g cl b env M1 (fun y M2 => opt (idxF (deref M2 x) y) fun z => Q z M2) X) X := rfl
theorem u_sl {m : Bool} {a : E} {lo hi : Oe} : wpE g cl (.sl m a lo hi) env M Q X = wpE g cl a env M (fun x M1 => wpO g cl lo env M1 (fun l M2 => wpO g cl hi env M2 (fun h M3 => opt (slF (deref M3 x) l h) fun z => fin m z M3 Q) X) X) X := rfl
theorem u_rev {m : Bool} {a : E} : wpE g cl (.rev m a) env M Q X = wpE g cl a env M (fun x M1 => opt (revF (deref M1 x)) fun z => fin m z M1 Q) X := rfl
theorem u_lc {m : Bool} {own : List Nat} {src : Src} {tg : Tg} {t : Ot} {elt : E} : wpE g cl (.lc m own src tg t elt) env M Q X = wpSrc g cl src env M (fun items gd M1 => lcH g cl m own tg t elt gd items env M1 Q .mk .mk .mk .mk .mk .mk) X := rfl
theorem u_frz {e : E} : wpE g cl (.frz e) env M Q X = wpE g cl e env M (fun d M1 => opt (frzF M1 d) fun p => Q p.1 p.2) X := rfl
theorem u_nil {Q : List D → Mem → Prop} : wpEs g cl .nil env M Q X = Q [] M := rfl
theorem u_cons {e : E} {es : Es} {Q : List D → Mem → Prop} : wpEs g cl (.cons e es) env M Q X = wpE g cl e env M (fun d M1 => wpEs g cl es env M1 (fun ds M2 => Q (d :: ds) M2) X) X := rfl
theorem u_tval {e : E} {Q : Bool → Mem → Prop} : wpT g cl (.val e) env M Q X = wpE g cl e env M (fun d M1 => opt (truthF (deref M1 d)) fun z => Q z M1) X := rfl
theorem u_tand {a b : T} {Q : Bool → Mem → Prop} : wpT g cl (.and a b) env M Q X = wpT g cl a env M (fun z M1 => if z = true then wpT g cl b env M1 Q X else Q false M1) X := rfl
theorem u_tor {a b : T} {Q : Bool → Mem → Prop} : wpT g cl (.or a b) env M Q X = wpT g cl a env M (fun z M1 => if z = true then Q true M1 else wpT g cl b env M1 Q X) X := rfl
theorem u_tnot {a : T} {Q : Bool → Mem → Prop} : wpT g cl (.not a) env M Q X = wpT g cl a env M (fun z M1 => Q (!z) M1) X := rfl
theorem u_tn {Q : Bool → Mem → Prop} : wpTO g cl .none env M Q X = Q true M := rfl
theorem u_ts {e : T} {Q : Bool → Mem → Prop} : wpTO g cl (.some e) env M Q X = wpT g cl e env M Q X := rfl
theorem u_on {Q : Option Int → Mem → Prop} : wpO g cl .none env M Q X = Q none M := rfl
theorem u_os {e : E} {Q : Option Int → Mem → Prop} : wpO g cl (.some e) env M Q X = wpE g cl e env M (fun d M1 => opt (iO d) fun i => Q (some i) M1) X := by
  have q : wpO g cl (.some e) env M Q X = wpE g cl e env M (fun d M1 => match d with
    | .int i => Q (some i) M1
    | _ => False) X := rfl
  rw [q]
  congr 1
  funext x M1
  cases x <;> rfl
theorem u_of {e : E} {Q : List D → Guard → Mem → Prop} : wpSrc g cl (.of e) env M Q X = wpE g cl e env M (fun d M1 => opt (itemsF (deref M1 d)) fun items => Q items (gdOf M1 d) M1) X := rfl
theorem u_rng1 {a : E} {Q : List D → Guard → Mem → Prop} : wpSrc g cl (.rng1 a) env M Q X = wpE g cl a env M (fun x M1 => opt (iO x) fun j => (-(2 ^ 62) ≤ j ∧ j < 2 ^ 62) ∧ Q (rngL 0 j) (fun _ => True) M1) X := by
  have q : wpSrc g cl (.rng1 a) env M Q X = wpE g cl a env M (fun x M1 => match x with
    | .int j => -(2 ^ 62) ≤ j ∧ j < 2 ^ 62 ∧ Q (rngL 0 j) (fun _ => True) M1
    | _ => False) X := rfl
  rw [q]
  congr 1
  funext x M1
  cases x with
  | int j => exact propext and_assoc.symm
  | _ => rfl
theorem u_rng2 {a b : E} {Q : List D → Guard → Mem → Prop} : wpSrc g cl (.rng2 a b) env M Q X = wpE g cl a env M (fun x M1 => wpE g cl b env M1 (fun y M2 => opt (iO x) fun i => opt (iO y) fun j => (-(2 ^ 62) ≤ i ∧ i < 2 ^ 62 ∧ -(2 ^ 62) ≤ j ∧ j < 2 ^ 62) ∧ Q (rngL i j) (fun _ => True) M2) X) X := by
  have q : wpSrc g cl (.rng2 a b) env M Q X = wpE g cl a env M (fun x M1 => wpE g cl b env M1 (fun y M2 => match x, y with
    | .int i, .int j => (-(2 ^ 62) ≤ i ∧ i < 2 ^ 62 ∧ -(2 ^ 62) ≤ j ∧ j < 2 ^ 62) ∧ Q (rngL i j) (fun _ => True) M2
    | _, _ => False) X) X := rfl
  rw [q]
  congr 1
  funext x M1
  congr 1
  funext y M2
  cases x <;> cases y <;> rfl
theorem u_rng3 {a b c : E} {Q : List D → Guard → Mem → Prop} : wpSrc g cl (.rng3 a b c) env M Q X = wpE g cl a env M (fun x M1 => wpE g cl b env M1 (fun y M2 => wpE g cl c env M2 (fun z M3 => opt (iO x) fun i => opt (iO y) fun j => opt (iO z) fun k => k = -1 ∧ (-(2 ^ 62) ≤ i ∧ i < 2 ^ 62 ∧ -(2 ^ 62) ≤ j ∧ j < 2 ^ 62) ∧ Q (stepL i (-1) (i - j).toNat) (fun _ => True) M3) X) X) X := by
  have q : wpSrc g cl (.rng3 a b c) env M Q X = wpE g cl a env M (fun x M1 => wpE g cl b env M1 (fun y M2 => wpE g cl c env M2 (fun z M3 => match x, y, z with
    | .int i, .int j, .int (-1) => (-(2 ^ 62) ≤ i ∧ i < 2 ^ 62 ∧ -(2 ^ 62) ≤ j ∧ j < 2 ^ 62) ∧ Q (stepL i (-1) (i - j).toNat) (fun _ => True) M3
    | _, _, _ => False) X) X) X := rfl
  rw [q]
  congr 1
  funext x M1
  congr 1
  funext y M2
  congr 1
  funext z M3
  cases x with
  | int i =>
    cases y with
    | int j =>
      cases z with
      | int k =>
        by_cases h : k = -1
        · subst h
          simp [opt, iO]
        · simp only [opt, iO, h, false_and, iff_false]
          split
          · rename_i e
            injection e with e
            exact (h e).elim
          · rfl
      | _ => rfl
    | _ => cases z <;> rfl
  | _ => cases y <;> cases z <;> rfl
theorem u_enum {s : Src} {Q : List D → Guard → Mem → Prop} : wpSrc g cl (.enum s) env M Q X = wpSrc g cl s env M (fun items gd M1 => Q (enumL items) gd M1) X := rfl
theorem u_zip {a b : E} {Q : List D → Guard → Mem → Prop} : wpSrc g cl (.zip a b) env M Q X = wpE g cl a env M (fun x M1 => wpE g cl b env M1 (fun y M2 => opt (itemsF (deref M2 x)) fun xs => opt (itemsF (deref M2 y)) fun ys => Q (zipL xs ys) (fun m => gdOf M2 x m ∧ gdOf M2 y m) M2) X) X := rfl
theorem u_tname {i : Nat} {d : D} {Q : DEnv → Mem → Prop} : wpTg g cl (.name i) d env M Q X = Q (env.set i (some d)) M := rfl
theorem u_tfld {o : E} {f : Nat} {d : D} {Q : DEnv → Mem → Prop} : wpTg g cl (.fld o f) d env M Q X = wpE g cl o env M (fun x M1 => opt (putFld g M1 x f d) fun M2 => Q env M2) (fun _ _ => False) := rfl
theorem u_tidx {o i : E} {d : D} {Q : DEnv → Mem → Prop} : wpTg g cl (.idx o i) d env M Q X = wpE g cl o env M (fun x M1 => wpE g cl i env M1 (fun y M2 => opt (putIdx M2 x y d) fun M3 => Q env M3) (fun _ _ => False)) (fun _ _ => False) := rfl
theorem u_ttup {ts : Tgs} {ds : List D} {Q : DEnv → Mem → Prop} : wpTg g cl (.tup ts) (.tup ds) env M Q X = (tgsFit ts ds = true ∧ wpTgs g cl ts ds env M Q X) := rfl
theorem u_tnil {Q : DEnv → Mem → Prop} : wpTgs g cl .nil [] env M Q X = Q env M := by
  have q : wpTgs g cl .nil [] env M Q X = (([] : List D) = [] ∧ Q env M) := rfl
  rw [q]
  simp
theorem u_tcons {t : Tg} {ts : Tgs} {d : D} {ds : List D} {Q : DEnv → Mem → Prop} : wpTgs g cl (.cons t ts) (d :: ds) env M Q X = wpTg g cl t d env M (fun e m => wpTgs g cl ts ds e m Q X) X := rfl
/-! ### statements -/
section
variable {nx : DEnv → Mem → Prop} {rt : DK1} {bk ct : DEnv → Mem → Prop} {xc : Ex → DEnv → Mem → Prop}
theorem u_set {tg : Tg} {e : E} : wpS g cl (.set tg e) env M ⟨nx, rt, bk, ct, xc⟩ = wpE g cl e env M (fun d M1 => wpTg g cl tg d env M1 nx (fun x m => xc x env m)) (fun x m => xc x env m) := rfl
def parE : DEnv → List Nat → List D → DEnv
  | env, i :: is, d :: ds => parE (env.set i (some d)) is ds
  | env, _, _ => env
theorem parE_eq : ∀ (is : List Nat) (ds : List D) (env : DEnv), (is.zip ds).foldl (fun e p => e.set p.1 (some p.2)) env = parE env is ds
  | [], ds, env => by simp [parE]
  | i :: is, [], env => by simp [parE]
  | i :: is, d :: ds, env => by
    simp only [List.zip_cons_cons, List.foldl_cons, parE]
    exact parE_eq is ds _
theorem u_par {is : List Nat} {es : Es} : wpS g cl (.par is es) env M ⟨nx, rt, bk, ct, xc⟩ = wpEs g cl es env M (fun ds M1 => is.length = ds.length ∧ nx (parE env is ds) M1) (fun x m => xc x env m) := by
  simp only [← parE_eq]
  rfl
theorem u_aug {i : Nat} {op : Bop} {e : E} : wpS g cl (.aug i op e) env M ⟨nx, rt, bk, ct, xc⟩ = opt (vr env i) fun x => wpE g cl e env M (fun y M1 => opt (augF op x y) fun z => nx (env.set i (some z)) M1) (fun x m => xc x env m) := by
  rw [← vr_eq]
  rfl
theorem u_ife {c : T} {a b : Ss} : wpS g cl (.ife c a b) env M ⟨nx, rt, bk, ct, xc⟩ = wpT g cl c env M (fun z M1 => if z = true then wpSs g cl a env M1 ⟨nx, rt, bk, ct, xc⟩ else wpSs g cl b env M1 ⟨nx, rt, bk, ct, xc⟩) (fun x m => xc x env m) := rfl
theorem u_for {tg : Tg} {src : Src} {body : Ss} : wpS g cl (.forr tg src body) env M ⟨nx, rt, bk, ct, xc⟩ = wpSrc g cl src env M (fun items gd M1 => forH g cl tg body ⟨nx, rt, bk, ct, xc⟩ gd items env M1 .mk .mk .mk .mk) (fun x m => xc x env m) := rfl
theorem u_whil {c : T} {body : Ss} : wpS g cl (.whil c body) env M ⟨nx, rt, bk, ct, xc⟩ = whH g cl c body ⟨nx, rt, bk, ct, xc⟩ env M .mk .mk .mk := rfl
theorem u_ret {dr : List Nat} {e : E} : wpS g cl (.ret dr e) env M ⟨nx, rt, bk, ct, xc⟩ = wpE g cl e env M (fun d M1 => rt d (dropE env M1 dr)) (fun x m => xc x env m) := rfl
theorem u_retN {dr : List Nat} : wpS g cl (.retN dr) env M ⟨nx, rt, bk, ct, xc⟩ = rt .non (dropE env M dr) := rfl
theorem u_raise {c : Nat} : wpS g cl (.raise c) env M ⟨nx, rt, bk, ct, xc⟩ = xc ⟨c⟩ env M := rfl
theorem u_exp {e : E} : wpS g cl (.exp e) env M ⟨nx, rt, bk, ct, xc⟩ = wpE g cl e env M (fun _ M1 => nx env M1) (fun x m => xc x env m) := rfl
theorem u_pass : wpS g cl .pass env M ⟨nx, rt, bk, ct, xc⟩ = nx env M := rfl
theorem u_brk : wpS g cl .brk env M ⟨nx, rt, bk, ct, xc⟩ = bk env M := rfl
theorem u_cnt : wpS g cl .cnt env M ⟨nx, rt, bk, ct, xc⟩ = ct env M := rfl
theorem u_never : wpS g cl .never env M ⟨nx, rt, bk, ct, xc⟩ = False := rfl
theorem u_try {body suite : Ss} {c : Nat} : wpS g cl (.tryo body c suite) env M ⟨nx, rt, bk, ct, xc⟩ = wpSs g cl body env M ⟨nx, rt, bk, ct, fun x e m => g.sub x.c x.c = true ∧ (if g.sub x.c c = true then wpSs g cl suite e m ⟨nx, rt, bk, ct, fun _ _ _ => False⟩ else xc x e m)⟩ := rfl
theorem u_snil : wpSs g cl .nil env M ⟨nx, rt, bk, ct, xc⟩ = nx env M := rfl
theorem u_scons {s : S} {ss : Ss} : wpSs g cl (.cons s ss) env M ⟨nx, rt, bk, ct, xc⟩ = wpS g cl s env M ⟨fun e m => wpSs g cl ss e m ⟨nx, rt, bk, ct, xc⟩, rt, bk, ct, xc⟩ := rfl
theorem u_augf {o : E} {f : Nat} {op : Bop} {e : E} : wpS g cl (.augf o f op e) env M ⟨nx, rt, bk, ct, xc⟩ = wpE g cl o env M (fun x M1 => opt (fldF g (deref M1 x) f) fun v => wpE g cl e env M1 (fun y M2 => clsF (deref M1 x) = clsF (deref M2 x) ∧ opt (augF op v y) fun z => opt (putFld g M2 x f z) fun M3 => nx env M3) (fun x m => xc x env m)) (fun x m => xc x env m) := rfl
end

/-! ### a new object -/
theorem u_finF {d : D} : fin false d M Q = Q d M := by cases d <;> rfl
theorem u_finL {xs : List D} : fin true (.lst xs) M Q = newH (.lst xs) M Q .mk := rfl
theorem u_finD {ks : List DK} {vs : List D} : fin true (.dct ks vs) M Q = newH (.dct ks vs) M Q .mk := rfl
theorem new_i {o : MO} {h : Hid Q} (k : ∀ a, M a = none → Q (.loc a) (M.set a o)) : newH o M Q h := k
theorem wpF_go {g : G} {fs : Nat → Option Fd} {n f : Nat} {d : Fd} {ds : List D} {hq : Hid Q} {hx : Hid X} {env : DEnv} {body : Ss} {dr : List Nat} {np nn : Nat} (hf : fs f = some ⟨np, nn, body, dr⟩) (hl : ds.length = np) (he : startE nn ds = env) :
    callH (wpF g fs (n + 1)) f ds M Q X hq hx = wpSs g (wpF g fs n) body env M ⟨fun e m => Q .non (dropE e m dr), Q, fun _ _ => False, fun _ _ => False, fun x _ m => X x m⟩ := by
  have q : callH (wpF g fs (n + 1)) f ds M Q X hq hx = opt (fs f) fun d => ds.length = d.np ∧ wpSs g (wpF g fs n) d.body (startE d.nn ds) M ⟨fun e m => Q .non (dropE e m d.dr), Q, fun _ _ => False, fun _ _ => False, fun x _ m => X x m⟩ := rfl
  rw [q, hf, opt_some, he]
  exact propext ⟨fun h => h.2, fun h => ⟨hl, h⟩⟩
end
/-! ### loops, comprehensions -/
section
variable {g : G} {cl : Calls} {env : DEnv} {M : Mem} {P : Post} {gd : Guard} {items : List D} {tg : Tg} {body : Ss} {own : List Nat} {t : Ot} {elt : E} {Q : DK1} {mm : Bool}
theorem u_turnL {d : D} {k : Option D → Mem → Prop} : turnL g cl own tg t elt env d M k = wpTg g cl tg d (wipeE env own) M (fun env' M3 =>
      wpTO g cl t env' M3 (fun z M4 => if z = true then wpE g cl elt env' M4 (fun y M5 => k (some y) M5) (fun _ _ => False) else k none M4) (fun _ _ => False)) (fun _ _ => False) := rfl
theorem u_turnF {nx : DEnv → Mem → Prop} {rt : DK1} {bk ct : DEnv → Mem → Prop} {xc : Ex → DEnv → Mem → Prop} {d : D} {k : DEnv → Mem → Prop} : turnF g cl tg body ⟨nx, rt, bk, ct, xc⟩ d env M k = wpTg g cl tg d env M (fun e' m' => wpSs g cl body e' m' ⟨k, rt, nx, k, xc⟩) (fun x m => xc x env m) := rfl
theorem forH_nil {a : Hid tg} {b : Hid body} {c : Hid P} {h : Hid gd} : forH g cl tg body P gd [] env M a b c h = (gd M ∧ P.nx env M) := rfl
theorem forH_cons {d : D} {a : Hid tg} {b : Hid body} {c : Hid P} {h : Hid gd} : forH g cl tg body P gd (d :: items) env M a b c h = (gd M ∧ turnF g cl tg body P d env M fun e m => forH g cl tg body P gd items e m .mk .mk .mk .mk) := rfl
theorem forH_inv {a : Hid tg} {b : Hid body} {c : Hid P} {h : Hid gd} (J : List D → DEnv → Mem → Prop) (h0 : J items env M)
    (hs : ∀ d rest e m (k : DEnv → Mem → Prop), J (d :: rest) e m → (∀ e' m', J rest e' m' → k e' m') → gd m ∧ turnF g cl tg body P d e m k)
    (he : ∀ e m, J [] e m → gd m ∧ P.nx e m) : forH g cl tg body P gd items env M a b c h := by
  unfold forH
  induction items generalizing env M with
  | nil => exact he _ _ h0
  | cons d ds ih => exact hs d ds env M _ h0 fun e' m' j => ih j
theorem forH_any {a : Hid tg} {b : Hid body} {c : Hid P} {h : Hid gd} (p : D → Bool) (J : DEnv → Prop) {R N : Prop} (h0 : J env) (hg : gd M)
    (hs : ∀ d ∈ items, ∀ e, J e → ∃ e', J e' ∧ ∀ k, turnF g cl tg body P d e M k = if p d = true then R else k e' M)
    (he : ∀ e, J e → P.nx e M = N) : forH g cl tg body P gd items env M a b c h = if items.any p = true then R else N := by
  unfold forH
  induction items generalizing env with
  | nil =>
    simp only [List.any_nil, Bool.false_eq_true, if_false, forLoop, hg, true_and]
    exact he _ h0
  | cons d ds ih =>
    simp only [forLoop, hg, true_and]
    obtain ⟨e', j, q⟩ := hs d List.mem_cons_self env h0
    rw [q]
    by_cases hp : p d = true
    · simp [hp]
    · simp only [hp, Bool.false_eq_true, if_false, List.any_cons, Bool.false_or, ↓reduceIte]
      exact ih j fun d' hd => hs d' (List.mem_cons_of_mem _ hd)
/-- a loop that goes on to its end, one list at a place of the frame -/
theorem forH_all {a : Hid tg} {b : Hid body} {c : Hid P} {h : Hid gd} (J : List D → DEnv → Mem → Prop) {N : Prop} (h0 : J items env M) (hg : ∀ r e m, J r e m → gd m)
    (hs : ∀ d rest e m, J (d :: rest) e m → ∃ e' m', J rest e' m' ∧ ∀ k, turnF g cl tg body P d e m k = k e' m')
    (he : ∀ e m, J [] e m → P.nx e m = N) : forH g cl tg body P gd items env M a b c h = N := by
  unfold forH
  induction items generalizing env M with
  | nil =>
    simp only [forLoop, hg _ _ _ h0, true_and]
    exact he _ _ h0
  | cons d ds ih =>
    simp only [forLoop, hg _ _ _ h0, true_and]
    obtain ⟨e', m', j, q⟩ := hs d ds env M h0
    rw [q]
    exact ih j
theorem lcH_map {a : Hid own} {b : Hid tg} {c : Hid t} {e : Hid elt} {h : Hid gd} {q : Hid Q} {α : Type} (xs : List α) (enc f : α → D) (hi : items = xs.map enc) (hg : gd M) (hl : xs.length ≤ 16777216)
    (hs : ∀ x ∈ xs, ∀ k, turnL g cl own tg t elt env (enc x) M k = k (some (f x)) M) : lcH g cl mm own tg t elt gd items env M Q a b c e h q = fin mm (.lst (xs.map f)) M Q := by
  subst hi
  unfold lcH
  have key : ∀ (ys : List α) (acc : List D), acc.length + ys.length ≤ 16777216 → (∀ x ∈ ys, ∀ k, turnL g cl own tg t elt env (enc x) M k = k (some (f x)) M) →
      lcLoop gd (turnL g cl own tg t elt env) (fun acc M2 => fin mm (.lst acc) M2 Q) (ys.map enc) acc M = fin mm (.lst (acc ++ ys.map f)) M Q := by
    intro ys
    induction ys with
    | nil =>
      intro acc _ _
      simp [lcLoop, hg]
    | cons y ys ih =>
      intro acc hl hs
      simp only [List.map_cons, lcLoop, hg, true_and]
      rw [hs y List.mem_cons_self]
      have : acc.length < lim := by
        simp only [List.length_cons] at hl
        show _ < sizeLine
        unfold sizeLine
        omega
      simp only [this, true_and]
      rw [ih (acc ++ [f y]) (by simp only [List.length_append, List.length_cons, List.length_nil] at hl ⊢; omega) fun x hx => hs x (List.mem_cons_of_mem _ hx)]
      simp
  have := key xs [] (by simpa using hl) hs
  simpa using this
theorem lcH_run {a : Hid own} {b : Hid tg} {c : Hid t} {e : Hid elt} {h : Hid gd} {q : Hid Q} (J : Mem → Prop) (R : D → Prop) (h0 : J M) (hg : ∀ m, J m → gd m) (hl : items.length ≤ 16777216)
    (hs : ∀ d ∈ items, ∀ m k, J m → (∀ y m', J m' → R y → k (some y) m') → turnL g cl own tg t elt env d m k)
    (he : ∀ ys m, J m → ys.length = items.length → (∀ y ∈ ys, R y) → fin mm (.lst ys) m Q) : lcH g cl mm own tg t elt gd items env M Q a b c e h q := by
  unfold lcH
  have key : ∀ (ds : List D) (acc : List D) (m : Mem), J m → (∀ y ∈ acc, R y) → acc.length + ds.length = items.length → (∀ d ∈ ds, d ∈ items) →
      lcLoop gd (turnL g cl own tg t elt env) (fun acc M2 => fin mm (.lst acc) M2 Q) ds acc m := by
    intro ds
    induction ds with
    | nil =>
      intro acc m j r hn _
      exact ⟨hg m j, he acc m j (by simpa using hn) r⟩
    | cons d ds ih =>
      intro acc m j r hn hd
      refine ⟨hg m j, hs d (hd d List.mem_cons_self) m _ j fun y m' j' ry => ?_⟩
      simp only [List.length_cons] at hn
      refine ⟨?_, ih _ _ j' (fun z hz => ?_) (by simp only [List.length_append, List.length_cons, List.length_nil]; omega) fun x hx => hd x (List.mem_cons_of_mem _ hx)⟩
      · show _ < sizeLine
        unfold sizeLine
        omega
      · rcases List.mem_append.mp hz with hz | hz
        · exact r z hz
        · rw [List.mem_singleton.mp hz]
          exact ry
  exact key items [] M h0 (fun y hy => by cases hy) (by simp) fun d hd => hd
theorem lcH_runT {a : Hid own} {b : Hid tg} {c : Hid t} {e : Hid elt} {h : Hid gd} {q : Hid Q} {β : Type} (f : β → D) (J : Mem → Prop) (R : β → Prop) (h0 : J M) (hg : ∀ m, J m → gd m) (hl : items.length ≤ 16777216)
    (hs : ∀ d ∈ items, ∀ m k, J m → (∀ y m', J m' → R y → k (some (f y)) m') → turnL g cl own tg t elt env d m k)
    (he : ∀ (ys : List β) m, J m → ys.length = items.length → (∀ y ∈ ys, R y) → fin mm (.lst (ys.map f)) m Q) : lcH g cl mm own tg t elt gd items env M Q a b c e h q := by
  refine lcH_run J (fun d => ∃ y, R y ∧ d = f y) h0 hg hl (fun d hd m k j kk => hs d hd m k j fun y m' j' r => kk _ m' j' ⟨y, r, rfl⟩) fun ys m j hn hr => ?_
  have key : ∀ ys : List D, (∀ y ∈ ys, ∃ x, R x ∧ y = f x) → ∃ xs : List β, ys = xs.map f ∧ ∀ x ∈ xs, R x := by
    intro ys
    induction ys with
    | nil => exact fun _ => ⟨[], rfl, fun x hx => by cases hx⟩
    | cons y ys ih =>
      intro h
      obtain ⟨x, r, rfl⟩ := h y List.mem_cons_self
      obtain ⟨xs, rfl, rs⟩ := ih fun z hz => h z (List.mem_cons_of_mem _ hz)
      exact ⟨x :: xs, rfl, fun z hz => by
        rcases List.mem_cons.mp hz with rfl | hz
        · exact r
        · exact rs z hz⟩
  obtain ⟨xs, rfl, rs⟩ := key ys hr
  exact he xs m j (by simpa using hn) rs
theorem whH_inv {c : T} {a : Hid c} {b : Hid body} {e : Hid P} (J : Nat → DEnv → Mem → Prop) {n : Nat} (h0 : J n env M)
    (hs : ∀ n e m (k : DEnv → Mem → Prop), J n e m → (∀ e' m' i, i < n → J i e' m' → k e' m') → wpT g cl c e m (fun z m1 => if z = true then wpSs g cl body e m1 ⟨k, P.rt, P.nx, k, P.xc⟩ else P.nx e m1) (fun x m => P.xc x e m)) : whH g cl c body P env M a b e := by
  refine ⟨n + 1, ?_⟩
  have key : ∀ k n e m, n < k → J n e m → whLoop (fun e m k => wpT g cl c e m (fun z m1 => if z = true then wpSs g cl body e m1 ⟨k, P.rt, P.nx, k, P.xc⟩ else P.nx e m1) (fun x m => P.xc x e m)) k e m := by
    intro k
    induction k with
    | zero =>
      intro n e m h
      omega
    | succ k ih =>
      intro n e m h j
      exact hs n e m _ j fun e' m' i hi j' => ih i e' m' (by omega) j'
  exact key (n + 1) n env M (by omega) h0
end
theorem dropE_nil {env : DEnv} {M : Mem} : dropE env M [] = M := rfl
theorem dropE_cons {env : DEnv} {M : Mem} {i : Nat} {is : List Nat} : dropE env M (i :: is) = match vr env i with
    | some (.loc a) => dropE env (M.del a) is
    | some (.lst xs) => dropE env (delL M xs) is
    | _ => dropE env M is := by
  rw [← vr_eq, dropE]
  cases env[i]? with
  | none => rfl
  | some o => cases o with
    | none => rfl
    | some d => cases d <;> rfl
/-! ### what operations give -/
theorem deref_non {M : Mem} : deref M .non = .non := rfl
theorem deref_bl {M : Mem} {b : Bool} : deref M (.bl b) = .bl b := rfl
theorem deref_int {M : Mem} {i : Int} : deref M (.int i) = .int i := rfl
theorem deref_str {M : Mem} {c : List Nat} : deref M (.str c) = .str c := rfl
theorem deref_tup {M : Mem} {c : List D} : deref M (.tup c) = .tup c := rfl
theorem deref_lst {M : Mem} {c : List D} : deref M (.lst c) = .lst c := rfl
theorem deref_ins {M : Mem} {c : Nat} {fs : List Nat} {vs : List D} : deref M (.ins c fs vs) = .ins c fs vs := rfl
theorem deref_dct {M : Mem} {fs : List DK} {vs : List D} : deref M (.dct fs vs) = .dct fs vs := rfl
theorem deref_scr {M : Mem} {c : List Int} : deref M (.scr c) = .scr c := rfl
theorem deref_loc {M : Mem} {a : Addr} : deref M (.loc a) = match M a with
    | some (.lst xs) => .lst xs
    | some (.dct ks vs) => .dct ks vs
    | some (.ins c fs vs) => .ins c fs vs
    | none => .loc a := rfl
theorem mulF_ok {i j : Int} (h : MulOk i j) : mulF (.int i) (.int j) = some (.int (i * j)) := by
  show (if MulOk i j then _ else _) = _
  rw [if_pos h]
theorem mulF_r {i j : Int} (h : -18446744073709551616 < j) (h2 : j < 18446744073709551616) : mulF (.int i) (.int j) = some (.int (i * j)) := mulF_ok (.inr ⟨h, h2⟩)
theorem mulF_l {i j : Int} (h : -18446744073709551616 < i) (h2 : i < 18446744073709551616) : mulF (.int i) (.int j) = some (.int (i * j)) := mulF_ok (.inl ⟨h, h2⟩)
theorem mulF_str {c : List Nat} {k : Int} : mulF (.str c) (.int k) = if c ≠ [] ∧ 2 ≤ k ∧ k ≤ 1000 ∧ c.length ≤ 1000 then some (.str (List.replicate k.toNat c).flatten) else none := rfl
theorem mulF_lst {xs : List D} {k : Int} : mulF (.lst xs) (.int k) = if -(2 ^ 63) ≤ k ∧ k < 2 ^ 63 ∧ xs.length * k.toNat ≤ lim then some (.lst (List.replicate k.toNat xs).flatten) else none := rfl
theorem mulF_tup {xs : List D} {k : Int} : mulF (.tup xs) (.int k) = if xs ≠ [] ∧ 2 ≤ k ∧ k ≤ 1000 ∧ xs.length ≤ 1000 then some (.tup (List.replicate k.toNat xs).flatten) else none := rfl
/-- no address -/
def nl : D → Bool
  | .loc _ => false
  | _ => true
theorem deref_nl {M : Mem} {d : D} (h : nl d = true) : deref M d = d := by
  cases d <;> first | rfl | cases h
theorem idx_str {cs : List Nat} {i : Int} (h : cs.length ≤ 16777216) : idxF (.str cs) (.int i) = (atI cs i).map fun c => .str [c] := by
  show (if cs.length ≤ lim then _ else _) = _
  rw [if_pos (show cs.length ≤ lim from h)]
theorem one_inj {a b : Nat} : ([a] = [b]) = (a = b) := by simp
theorem sizeLine_val : sizeLine = 16777216 := rfl
theorem atI_zero {α : Type} {x : α} {xs : List α} : atI (x :: xs) 0 = some x := by
  simp [atI, ixN]
theorem atI_pos {α : Type} {x : α} {xs : List α} {i : Int} (h : 0 < i) : atI (x :: xs) i = atI xs (i - 1) := by
  unfold atI ixN
  simp only [List.length_cons]
  rw [if_pos (by omega), if_pos (by omega : 0 ≤ i - 1)]
  by_cases h1 : i < (xs.length : Int) + 1
  · rw [if_pos (by omega), if_pos (by omega)]
    obtain ⟨n, rfl⟩ : ∃ n : Nat, i = n + 1 := ⟨(i - 1).toNat, by omega⟩
    simp only [Option.bind_some]
    rw [show ((n : Int) + 1).toNat = n + 1 by omega, show ((n : Int) + 1 - 1).toNat = n by omega, List.getElem?_cons_succ]
  · rw [if_neg (by omega), if_neg (by omega)]
    rfl
theorem atI_nat {α : Type} {xs : List α} {n : Nat} : atI xs (n : Int) = xs[n]? := by
  unfold atI ixN
  rw [if_pos (by omega)]
  by_cases h : (n : Int) < xs.length
  · rw [if_pos h]
    simp
  · rw [if_neg h, List.getElem?_eq_none (by omega)]
    rfl
theorem atI_of {α : Type} {xs : List α} {i : Int} (h : 0 ≤ i) : atI xs i = xs[i.toNat]? := by
  obtain ⟨n, rfl⟩ : ∃ n : Nat, i = n := ⟨i.toNat, by omega⟩
  rw [atI_nat]
  rfl
theorem atI_last {α : Type} {xs : List α} {x : α} : atI (xs ++ [x]) (-1) = some x := by
  unfold atI ixN
  rw [if_neg (by omega), if_pos (by simp only [List.length_append, List.length_cons, List.length_nil]; omega)]
  simp only [Option.bind_some, List.length_append, List.length_cons, List.length_nil]
  rw [show (-1 + ((xs.length + (0 + 1) : Nat) : Int)).toNat = xs.length by omega]
  simp
theorem atI_map {α β : Type} {f : α → β} {xs : List α} {i : Int} (h : 0 ≤ i) (h2 : i < xs.length) : ∃ x ∈ xs, xs[i.toNat]? = some x ∧ atI (xs.map f) i = some (f x) := by
  have h3 : i.toNat < xs.length := by omega
  refine ⟨xs[i.toNat], List.getElem_mem h3, List.getElem?_eq_getElem h3, ?_⟩
  rw [atI_of h, List.getElem?_map, List.getElem?_eq_getElem h3]
  rfl
theorem atI_some {α : Type} {xs : List α} {i : Int} (h : 0 ≤ i) (h2 : i < xs.length) : ∃ x ∈ xs, xs[i.toNat]? = some x ∧ atI xs i = some x := by
  obtain ⟨x, a, b, c⟩ := atI_map (f := id) h h2
  exact ⟨x, a, b, by simpa using c⟩
theorem rngL_length {a b : Int} : (rngL a b).length = (b - a).toNat := by
  simp [rngL]
theorem new_ne {M : Mem} {a l : Addr} {o : MO} (h : (M.set a o) l = none) : a ≠ l ∧ l ≠ a ∧ M l = none := by
  unfold Mem.set at h
  split at h
  · cases h
  · rename_i q
    exact ⟨fun e => q e.symm, q, h⟩
theorem strsF_map {α : Type} (f : α → List Nat) : ∀ xs : List α, strsF (xs.map fun x => D.str (f x)) = some (xs.map f)
  | [] => rfl
  | x :: xs => by
    simp only [List.map_cons, strsF, strsF_map f xs, Option.map_some]
theorem joinL_one : ∀ cs : List Nat, TL.joinL [] (cs.map fun c => [c]) = cs
  | [] => rfl
  | [c] => rfl
  | c :: d :: r => by
    have := joinL_one (d :: r)
    simp only [List.map_cons] at this ⊢
    show [c] ++ ([] ++ _) = _
    rw [this]
    rfl
/-- signs one by one -/
theorem join_signs {cs : List Nat} (h : cs.length ≤ 16777216) : joinF (.str []) (.lst (cs.map fun c => .str [c])) = some (.str cs) := by
  simp only [joinF, strsF_map (fun c : Nat => [c]), Option.bind_some]
  have e : ((cs.map fun c => [c]).map (·.length)).sum = cs.length := by
    rw [List.map_map]
    clear h
    induction cs with
    | nil => rfl
    | cons c cs ih =>
      rw [List.map_cons, List.sum_cons, ih]
      show 1 + cs.length = cs.length + 1
      omega
  rw [e]
  simp only [List.length_nil, Nat.mul_zero, Nat.add_zero]
  rw [if_pos h, joinL_one]
theorem mem_swap {M : Mem} {a b : Addr} {o u v : MO} (h : a ≠ b) : ((M.set a o).set b u).set a v = (M.set a v).set b u := by
  rw [Mem.set_swap h, Mem.set_set]
  rw [Mem.set_swap h.symm]
end Wp

set_option Elab.async false
set_option linter.all false
set_option maxRecDepth 100000
/-! Wm: what is wanted may be weakened; a cut between two statements. -/
namespace Wp
open PySem L2 Lw
theorem opt_mono {α : Type} {o : Option α} {k k' : α → Prop} (h : ∀ a, k a → k' a) (w : opt o k) : opt o k' := by
  cases o with
  | none => exact w
  | some a => exact h a w
def LeQ (Q Q' : DK1) : Prop := ∀ d m, Q d m → Q' d m
def LeX (X X' : XK1) : Prop := ∀ x m, X x m → X' x m
theorem fin_mono {b : Bool} {d : D} {M : Mem} {Q Q' : DK1} (h : LeQ Q Q') (w : fin b d M Q) : fin b d M Q' := by
  cases b with
  | false =>
    rw [u_finF] at w ⊢
    exact h _ _ w
  | true => cases d <;> first | exact w.elim | exact fun a ha => h _ _ (w a ha)
def MonoC (cl : Calls) : Prop := ∀ f ds M Q Q' X X', LeQ Q Q' → LeX X X' → cl f ds M Q X → cl f ds M Q' X'
theorem forLoop_mono {gd : Guard} {t t' : D → DEnv → Mem → (DEnv → Mem → Prop) → Prop} {nx nx' : DEnv → Mem → Prop} (ht : ∀ d e m k k', (∀ e m, k e m → k' e m) → t d e m k → t' d e m k') (hn : ∀ e m, nx e m → nx' e m) :
    ∀ (ds : List D) (e : DEnv) (m : Mem), forLoop gd t nx ds e m → forLoop gd t' nx' ds e m
  | [], e, m, h => ⟨h.1, hn _ _ h.2⟩
  | d :: ds, e, m, h => ⟨h.1, ht _ _ _ _ _ (fun e m q => forLoop_mono ht hn ds e m q) h.2⟩
theorem lcLoop_mono {gd : Guard} {t t' : D → Mem → (Option D → Mem → Prop) → Prop} {Q Q' : List D → Mem → Prop} (ht : ∀ d m k k', (∀ e m, k e m → k' e m) → t d m k → t' d m k') (hn : ∀ e m, Q e m → Q' e m) :
    ∀ (ds acc : List D) (m : Mem), lcLoop gd t Q ds acc m → lcLoop gd t' Q' ds acc m
  | [], acc, m, h => ⟨h.1, hn _ _ h.2⟩
  | d :: ds, acc, m, h => ⟨h.1, ht _ _ _ _ (fun r m q => by
    cases r with
    | none => exact lcLoop_mono ht hn ds acc m q
    | some y => exact ⟨q.1, lcLoop_mono ht hn ds _ m q.2⟩) h.2⟩
theorem whLoop_mono {t t' : DEnv → Mem → (DEnv → Mem → Prop) → Prop} (ht : ∀ e m k k', (∀ e m, k e m → k' e m) → t e m k → t' e m k') : ∀ (n : Nat) (e : DEnv) (m : Mem), whLoop t n e m → whLoop t' n e m
  | 0, _, _, h => h
  | n + 1, e, m, h => ht _ _ _ _ (fun e m q => whLoop_mono ht n e m q) h
theorem bmW_mono {mm : Bool} {b : Bm} {d : D} {ds : List D} {M : Mem} {Q Q' : DK1} (hq : LeQ Q Q') (w : bmW mm b d ds M Q) : bmW mm b d ds M Q' := by
  cases b with
  | append => cases d <;> first | exact w.elim | exact opt_mono (fun _ q => opt_mono (fun _ r => hq _ _ r) q) w
  | extend => cases d <;> first | exact w.elim | exact opt_mono (fun _ q => opt_mono (fun _ r => hq _ _ r) q) w
  | popAt => cases d <;> first | exact w.elim | exact opt_mono (fun _ q => opt_mono (fun _ r => hq _ _ r) q) w
  | get => exact opt_mono (fun _ r => hq _ _ r) w
  | join => exact opt_mono (fun _ r => fin_mono hq r) w
  | split => exact opt_mono (fun _ r => fin_mono hq r) w
  | upper => exact opt_mono (fun _ r => fin_mono hq r) w
theorem ite_mono {c : Prop} [Decidable c] {a b a' b' : Prop} (h : a → a') (k : b → b') (w : if c then a else b) : if c then a' else b' := by
  split at w
  · rename_i q
    rw [if_pos q]
    exact h w
  · rename_i q
    rw [if_neg q]
    exact k w
section
variable {g : G} {cl : Calls} (hc : MonoC cl)
include hc
mutual
theorem monoE : ∀ (e : E) (env : DEnv) (M : Mem) (Q Q' : DK1) (X X' : XK1), LeQ Q Q' → LeX X X' → wpE g cl e env M Q X → wpE g cl e env M Q' X'
  | .var i, env, M, Q, Q', X, X', hq, hx, w => opt_mono (fun d r => hq _ _ r) w
  | .cst d, env, M, Q, Q', X, X', hq, hx, w => hq _ _ w
  | .glb i, env, M, Q, Q', X, X', hq, hx, w => opt_mono (fun d r => hq _ _ r) w
  | .fld e f, env, M, Q, Q', X, X', hq, hx, w => by
    rw [u_fld] at w ⊢
    exact monoE e _ _ _ _ _ _ (fun d m q => opt_mono (fun v r => hq _ _ r) q) hx w
  | .bin mm op a b, env, M, Q, Q', X, X', hq, hx, w => by
    rw [u_bin] at w ⊢
    exact monoE a _ _ _ _ _ _ (fun d m q => monoE b _ _ _ _ _ _ (fun d m q => opt_mono (fun v r => fin_mono hq r) q) hx q) hx w
  | .neg a, env, M, Q, Q', X, X', hq, hx, w => by
    rw [u_neg] at w ⊢
    exact monoE a _ _ _ _ _ _ (fun d m q => opt_mono (fun v r => hq _ _ r) q) hx w
  | .cmp op a b, env, M, Q, Q', X, X', hq, hx, w => by
    rw [u_cmp] at w ⊢
    exact monoE a _ _ _ _ _ _ (fun d m q => monoE b _ _ _ _ _ _ (fun d m q => opt_mono (fun v r => hq _ _ r) q) hx q) hx w
  | .chn o1 o2 a b c, env, M, Q, Q', X, X', hq, hx, w => by
    rw [u_chn] at w ⊢
    exact monoE a _ _ _ _ _ _ (fun d m q => monoE b _ _ _ _ _ _ (fun d m q => opt_mono (fun v r => ite_mono (fun r => monoE c _ _ _ _ _ _ (fun d m q => opt_mono (fun v r => hq _ _ r) q) hx r) (hq _ _) r) q) hx q) hx w
  | .isN a, env, M, Q, Q', X, X', hq, hx, w => by
    rw [u_isN] at w ⊢
    exact monoE a _ _ _ _ _ _ (fun d m q => hq _ _ q) hx w
  | .notN a, env, M, Q, Q', X, X', hq, hx, w => by
    rw [u_notN] at w ⊢
    exact monoE a _ _ _ _ _ _ (fun d m q => hq _ _ q) hx w
  | .isB a b, env, M, Q, Q', X, X', hq, hx, w => by
    rw [u_isB] at w ⊢
    exact monoE a _ _ _ _ _ _ (fun d m q => hq _ _ q) hx w
  | .and a b, env, M, Q, Q', X, X', hq, hx, w => by
    rw [u_and] at w ⊢
    exact monoE a _ _ _ _ _ _ (fun d m q => opt_mono (fun v r => ite_mono (monoE b _ _ _ _ _ _ hq hx) (hq _ _) r) q) hx w
  | .or a b, env, M, Q, Q', X, X', hq, hx, w => by
    rw [u_or] at w ⊢
    exact monoE a _ _ _ _ _ _ (fun d m q => opt_mono (fun v r => ite_mono (hq _ _) (monoE b _ _ _ _ _ _ hq hx) r) q) hx w
  | .not a, env, M, Q, Q', X, X', hq, hx, w => by
    rw [u_not] at w ⊢
    exact monoE a _ _ _ _ _ _ (fun d m q => opt_mono (fun v r => hq _ _ r) q) hx w
  | .ite c a b, env, M, Q, Q', X, X', hq, hx, w => by
    rw [u_ite] at w ⊢
    exact monoT c _ _ _ _ _ _ (fun z m q => ite_mono (monoE a _ _ _ _ _ _ hq hx) (monoE b _ _ _ _ _ _ hq hx) q) hx w
  | .tup es, env, M, Q, Q', X, X', hq, hx, w => by
    rw [u_tup] at w ⊢
    exact monoEs es _ _ _ _ _ _ (fun ds m q => ⟨q.1, hq _ _ q.2⟩) hx w
  | .lst mm es, env, M, Q, Q', X, X', hq, hx, w => by
    rw [u_lst] at w ⊢
    exact monoEs es _ _ _ _ _ _ (fun ds m q => ⟨q.1, fin_mono hq q.2⟩) hx w
  | .dct mm .nil .nil, env, M, Q, Q', X, X', hq, hx, w => by
    rw [u_dct0] at w ⊢
    exact fin_mono hq w
  | .dct mm (.cons k .nil) (.cons v .nil), env, M, Q, Q', X, X', hq, hx, w => by
    rw [u_dct1] at w ⊢
    exact monoE k _ _ _ _ _ _ (fun d m q => monoE v _ _ _ _ _ _ (fun d m q => opt_mono (fun v r => fin_mono hq r) q) hx q) hx w
  | .dct mm .nil (.cons _ _), env, M, Q, Q', X, X', hq, hx, w => w.elim
  | .dct mm (.cons _ .nil) .nil, env, M, Q, Q', X, X', hq, hx, w => w.elim
  | .dct mm (.cons _ .nil) (.cons _ (.cons _ _)), env, M, Q, Q', X, X', hq, hx, w => w.elim
  | .dct mm (.cons _ (.cons _ _)) _, env, M, Q, Q', X, X', hq, hx, w => w.elim
  | .call f es, env, M, Q, Q', X, X', hq, hx, w => by
    rw [u_call] at w ⊢
    exact monoEs es _ _ _ _ _ _ (fun ds m q => hc _ _ _ _ _ _ _ hq hx q) hx w
  | .make c fz es, env, M, Q, Q', X, X', hq, hx, w => by
    rw [u_make] at w ⊢
    refine monoEs es _ _ _ _ _ _ (fun ds m q a ha => opt_mono (fun f r => hc _ _ _ _ _ _ _ (fun v m2 r => ⟨r.1, ?_⟩) hx r) (q a ha)) hx w
    have r2 := r.2
    cases fz with
    | true => exact opt_mono (fun p s => hq _ _ s) r2
    | false => exact hq _ _ r2
  | .meth m o es, env, M, Q, Q', X, X', hq, hx, w => by
    rw [u_meth] at w ⊢
    exact monoE o _ _ _ _ _ _ (fun d m q => opt_mono (fun f r => monoEs es _ _ _ _ _ _ (fun ds m q => hc _ _ _ _ _ _ _ hq hx q) hx r) q) hx w
  | .bi mm b es, env, M, Q, Q', X, X', hq, hx, w => by
    rw [u_bi] at w ⊢
    exact monoEs es _ _ _ _ _ _ (fun ds m q => opt_mono (fun f r => fin_mono hq r) q) hx w
  | .bm mm b o es, env, M, Q, Q', X, X', hq, hx, w => by
    rw [u_bm] at w ⊢
    exact monoE o _ _ _ _ _ _ (fun d m q => ⟨q.1, monoEs es _ _ _ _ _ _ (fun ds m q => bmW_mono hq q) hx q.2⟩) hx w
  | .idx a b, env, M, Q, Q', X, X', hq, hx, w => by
    rw [u_idx] at w ⊢
    exact monoE a _ _ _ _ _ _ (fun d m q => monoE b _ _ _ _ _ _ (fun d m q => opt_mono (fun v r => hq _ _ r) q) hx q) hx w
  | .sl mm a lo hi, env, M, Q, Q', X, X', hq, hx, w => by
    rw [u_sl] at w ⊢
    exact monoE a _ _ _ _ _ _ (fun d m q => monoO lo _ _ _ _ _ _ (fun d m q => monoO hi _ _ _ _ _ _ (fun d m q => opt_mono (fun v r => fin_mono hq r) q) hx q) hx q) hx w
  | .rev mm a, env, M, Q, Q', X, X', hq, hx, w => by
    rw [u_rev] at w ⊢
    exact monoE a _ _ _ _ _ _ (fun d m q => opt_mono (fun v r => fin_mono hq r) q) hx w
  | .lc mm own src tg t elt, env, M, Q, Q', X, X', hq, hx, w => by
    rw [u_lc] at w ⊢
    refine monoSrc src _ _ _ _ _ _ (fun items gd m q => lcLoop_mono (fun d m k k' hk q => ?_) (fun acc m q => fin_mono hq q) _ _ _ q) hx w
    exact monoTg tg _ _ _ _ _ _ _ (fun e m q => monoTO t _ _ _ _ _ _ (fun z m q => ite_mono (monoE elt _ _ _ _ _ _ (fun d m q => hk _ _ q) fun x m q => q) (hk _ _) q) (fun x m q => q) q) (fun x m q => q) q
  | .dc _ _ _ _ _ _ _, env, M, Q, Q', X, X', hq, hx, w => w.elim
  | .frz e, env, M, Q, Q', X, X', hq, hx, w => by
    rw [u_frz] at w ⊢
    exact monoE e _ _ _ _ _ _ (fun d m q => opt_mono (fun v r => hq _ _ r) q) hx w
theorem monoT : ∀ (e : T) (env : DEnv) (M : Mem) (Q Q' : Bool → Mem → Prop) (X X' : XK1), (∀ d m, Q d m → Q' d m) → LeX X X' → wpT g cl e env M Q X → wpT g cl e env M Q' X'
  | .val e, env, M, Q, Q', X, X', hq, hx, w => by
    rw [u_tval] at w ⊢
    exact monoE e _ _ _ _ _ _ (fun d m q => opt_mono (fun v r => hq _ _ r) q) hx w
  | .and a b, env, M, Q, Q', X, X', hq, hx, w => by
    rw [u_tand] at w ⊢
    exact monoT a _ _ _ _ _ _ (fun d m q => ite_mono (monoT b _ _ _ _ _ _ hq hx) (hq _ _) q) hx w
  | .or a b, env, M, Q, Q', X, X', hq, hx, w => by
    rw [u_tor] at w ⊢
    exact monoT a _ _ _ _ _ _ (fun d m q => ite_mono (hq _ _) (monoT b _ _ _ _ _ _ hq hx) q) hx w
  | .not a, env, M, Q, Q', X, X', hq, hx, w => by
    rw [u_tnot] at w ⊢
    exact monoT a _ _ _ _ _ _ (fun d m q => hq _ _ q) hx w
theorem monoTO : ∀ (e : Ot) (env : DEnv) (M : Mem) (Q Q' : Bool → Mem → Prop) (X X' : XK1), (∀ d m, Q d m → Q' d m) → LeX X X' → wpTO g cl e env M Q X → wpTO g cl e env M Q' X'
  | .none, env, M, Q, Q', X, X', hq, hx, w => hq _ _ w
  | .some e, env, M, Q, Q', X, X', hq, hx, w => monoT e _ _ _ _ _ _ hq hx w
theorem monoEs : ∀ (e : Es) (env : DEnv) (M : Mem) (Q Q' : List D → Mem → Prop) (X X' : XK1), (∀ d m, Q d m → Q' d m) → LeX X X' → wpEs g cl e env M Q X → wpEs g cl e env M Q' X'
  | .nil, env, M, Q, Q', X, X', hq, hx, w => hq _ _ w
  | .cons e es, env, M, Q, Q', X, X', hq, hx, w => by
    rw [u_cons] at w ⊢
    exact monoE e _ _ _ _ _ _ (fun d m q => monoEs es _ _ _ _ _ _ (fun d m q => hq _ _ q) hx q) hx w
theorem monoO : ∀ (e : Oe) (env : DEnv) (M : Mem) (Q Q' : Option Int → Mem → Prop) (X X' : XK1), (∀ d m, Q d m → Q' d m) → LeX X X' → wpO g cl e env M Q X → wpO g cl e env M Q' X'
  | .none, env, M, Q, Q', X, X', hq, hx, w => hq _ _ w
  | .some e, env, M, Q, Q', X, X', hq, hx, w => by
    rw [u_os] at w ⊢
    exact monoE e _ _ _ _ _ _ (fun d m q => opt_mono (fun v r => hq _ _ r) q) hx w
theorem monoSrc : ∀ (e : Src) (env : DEnv) (M : Mem) (Q Q' : List D → Guard → Mem → Prop) (X X' : XK1), (∀ d gd m, Q d gd m → Q' d gd m) → LeX X X' → wpSrc g cl e env M Q X → wpSrc g cl e env M Q' X'
  | .of e, env, M, Q, Q', X, X', hq, hx, w => by
    rw [u_of] at w ⊢
    exact monoE e _ _ _ _ _ _ (fun d m q => opt_mono (fun v r => hq _ _ _ r) q) hx w
  | .rng1 a, env, M, Q, Q', X, X', hq, hx, w => by
    rw [u_rng1] at w ⊢
    exact monoE a _ _ _ _ _ _ (fun d m q => opt_mono (fun v r => ⟨r.1, hq _ _ _ r.2⟩) q) hx w
  | .rng2 a b, env, M, Q, Q', X, X', hq, hx, w => by
    rw [u_rng2] at w ⊢
    exact monoE a _ _ _ _ _ _ (fun d m q => monoE b _ _ _ _ _ _ (fun d m q => opt_mono (fun v r => opt_mono (fun v r => ⟨r.1, hq _ _ _ r.2⟩) r) q) hx q) hx w
  | .rng3 a b c, env, M, Q, Q', X, X', hq, hx, w => by
    rw [u_rng3] at w ⊢
    exact monoE a _ _ _ _ _ _ (fun d m q => monoE b _ _ _ _ _ _ (fun d m q => monoE c _ _ _ _ _ _ (fun d m q => opt_mono (fun v r => opt_mono (fun v r => opt_mono (fun v r => ⟨r.1, r.2.1, hq _ _ _ r.2.2⟩) r) r) q) hx q) hx q) hx w
  | .enum s, env, M, Q, Q', X, X', hq, hx, w => by
    rw [u_enum] at w ⊢
    exact monoSrc s _ _ _ _ _ _ (fun d gd m q => hq _ _ _ q) hx w
  | .zip a b, env, M, Q, Q', X, X', hq, hx, w => by
    rw [u_zip] at w ⊢
    exact monoE a _ _ _ _ _ _ (fun d m q => monoE b _ _ _ _ _ _ (fun d m q => opt_mono (fun v r => opt_mono (fun v r => hq _ _ _ r) r) q) hx q) hx w
theorem monoTg : ∀ (e : Tg) (d : D) (env : DEnv) (M : Mem) (Q Q' : DEnv → Mem → Prop) (X X' : XK1), (∀ d m, Q d m → Q' d m) → LeX X X' → wpTg g cl e d env M Q X → wpTg g cl e d env M Q' X'
  | .name i, d, env, M, Q, Q', X, X', hq, hx, w => hq _ _ w
  | .fld o f, d, env, M, Q, Q', X, X', hq, hx, w => by
    rw [u_tfld] at w ⊢
    exact monoE o _ _ _ _ _ _ (fun d m q => opt_mono (fun v r => hq _ _ r) q) (fun x m q => q) w
  | .idx o i, d, env, M, Q, Q', X, X', hq, hx, w => by
    rw [u_tidx] at w ⊢
    exact monoE o _ _ _ _ _ _ (fun d m q => monoE i _ _ _ _ _ _ (fun d m q => opt_mono (fun v r => hq _ _ r) q) (fun x m q => q) q) (fun x m q => q) w
  | .tup ts, d, env, M, Q, Q', X, X', hq, hx, w => by
    cases d with
    | tup ds =>
      rw [u_ttup] at w ⊢
      exact ⟨w.1, monoTgs ts _ _ _ _ _ _ _ hq hx w.2⟩
    | _ => exact w.elim
theorem monoTgs : ∀ (e : Tgs) (d : List D) (env : DEnv) (M : Mem) (Q Q' : DEnv → Mem → Prop) (X X' : XK1), (∀ d m, Q d m → Q' d m) → LeX X X' → wpTgs g cl e d env M Q X → wpTgs g cl e d env M Q' X'
  | .nil, d, env, M, Q, Q', X, X', hq, hx, w => ⟨w.1, hq _ _ w.2⟩
  | .cons t ts, [], env, M, Q, Q', X, X', hq, hx, w => w.elim
  | .cons t ts, d :: ds, env, M, Q, Q', X, X', hq, hx, w => by
    rw [u_tcons] at w ⊢
    exact monoTg t _ _ _ _ _ _ _ (fun e m q => monoTgs ts _ _ _ _ _ _ _ hq hx q) hx w
end
structure LeP (P P' : Post) : Prop where
  nx : ∀ e m, P.nx e m → P'.nx e m
  rt : ∀ e m, P.rt e m → P'.rt e m
  bk : ∀ e m, P.bk e m → P'.bk e m
  ct : ∀ e m, P.ct e m → P'.ct e m
  xc : ∀ x e m, P.xc x e m → P'.xc x e m
omit hc in
theorem u_try' {env : DEnv} {M : Mem} {P : Post} {body suite : Ss} {c : Nat} : wpS g cl (.tryo body c suite) env M P = wpSs g cl body env M ⟨P.nx, P.rt, P.bk, P.ct, fun x e m => g.sub x.c x.c = true ∧ (if g.sub x.c c = true then wpSs g cl suite e m ⟨P.nx, P.rt, P.bk, P.ct, fun _ _ _ => False⟩ else P.xc x e m)⟩ := rfl
mutual
theorem monoS : ∀ (s : S) (env : DEnv) (M : Mem) (P P' : Post), LeP P P' → wpS g cl s env M P → wpS g cl s env M P'
  | .set tg e, env, M, P, P', h, w => monoE hc e _ _ _ _ _ _ (fun d m q => monoTg hc tg _ _ _ _ _ _ _ h.nx (fun x m q => h.xc _ _ _ q) q) (fun x m q => h.xc _ _ _ q) w
  | .par is es, env, M, P, P', h, w => monoEs hc es _ _ _ _ _ _ (fun d m q => ⟨q.1, h.nx _ _ q.2⟩) (fun x m q => h.xc _ _ _ q) w
  | .aug i op e, env, M, P, P', h, w => opt_mono (fun x r => monoE hc e _ _ _ _ _ _ (fun d m q => opt_mono (fun z r => h.nx _ _ r) q) (fun x m q => h.xc _ _ _ q) r) w
  | .augf o f op e, env, M, P, P', h, w => monoE hc o _ _ _ _ _ _ (fun d m q => opt_mono (fun x r => monoE hc e _ _ _ _ _ _ (fun d m q => ⟨q.1, opt_mono (fun z r => opt_mono (fun z r => h.nx _ _ r) r) q.2⟩) (fun x m q => h.xc _ _ _ q) r) q) (fun x m q => h.xc _ _ _ q) w
  | .ife c a b, env, M, P, P', h, w => monoT hc c _ _ _ _ _ _ (fun z m q => ite_mono (monoSs a _ _ _ _ h) (monoSs b _ _ _ _ h) q) (fun x m q => h.xc _ _ _ q) w
  | .forr tg src body, env, M, P, P', h, w => monoSrc hc src _ _ _ _ _ _ (fun items gd m q => forLoop_mono (fun d e m k k' hk q => monoTg hc tg _ _ _ _ _ _ _ (fun e m q => monoSs body _ _ ⟨k, P.rt, P.nx, k, P.xc⟩ ⟨k', P'.rt, P'.nx, k', P'.xc⟩ ⟨hk, h.rt, h.nx, hk, h.xc⟩ q) (fun x m q => h.xc _ _ _ q) q) h.nx _ _ _ q) (fun x m q => h.xc _ _ _ q) w
  | .whil c body, env, M, P, P', h, ⟨n, w⟩ => ⟨n, whLoop_mono (fun e m k k' hk q => monoT hc c _ _ _ _ _ _ (fun z m q => ite_mono (monoSs body _ _ ⟨k, P.rt, P.nx, k, P.xc⟩ ⟨k', P'.rt, P'.nx, k', P'.xc⟩ ⟨hk, h.rt, h.nx, hk, h.xc⟩) (h.nx _ _) q) (fun x m q => h.xc _ _ _ q) q) _ _ _ w⟩
  | .ret dr e, env, M, P, P', h, w => monoE hc e _ _ _ _ _ _ (fun d m q => h.rt _ _ q) (fun x m q => h.xc _ _ _ q) w
  | .retN dr, env, M, P, P', h, w => h.rt _ _ w
  | .raise c, env, M, P, P', h, w => h.xc _ _ _ w
  | .exp e, env, M, P, P', h, w => monoE hc e _ _ _ _ _ _ (fun d m q => h.nx _ _ q) (fun x m q => h.xc _ _ _ q) w
  | .pass, env, M, P, P', h, w => h.nx _ _ w
  | .brk, env, M, P, P', h, w => h.bk _ _ w
  | .cnt, env, M, P, P', h, w => h.ct _ _ w
  | .never, env, M, P, P', h, w => w.elim
  | .tryo body c suite, env, M, P, P', h, w => by
    rw [u_try'] at w ⊢
    exact monoSs body _ _ ⟨P.nx, P.rt, P.bk, P.ct, fun x e m => g.sub x.c x.c = true ∧ (if g.sub x.c c = true then wpSs g cl suite e m ⟨P.nx, P.rt, P.bk, P.ct, fun _ _ _ => False⟩ else P.xc x e m)⟩ _ (LeP.mk h.nx h.rt h.bk h.ct fun x e m (q : _ ∧ _) => And.intro q.1 (ite_mono (monoSs suite _ _ ⟨P.nx, P.rt, P.bk, P.ct, fun _ _ _ => False⟩ ⟨P'.nx, P'.rt, P'.bk, P'.ct, fun _ _ _ => False⟩ ⟨h.nx, h.rt, h.bk, h.ct, fun x e m q => q⟩) (h.xc _ _ _) q.2)) w
theorem monoSs : ∀ (s : Ss) (env : DEnv) (M : Mem) (P P' : Post), LeP P P' → wpSs g cl s env M P → wpSs g cl s env M P'
  | .nil, env, M, P, P', h, w => h.nx _ _ w
  | .cons s ss, env, M, P, P', h, w => monoS s _ _ ⟨fun e m => wpSs g cl ss e m P, P.rt, P.bk, P.ct, P.xc⟩ _ ⟨fun e m q => monoSs ss _ _ _ _ h q, h.rt, h.bk, h.ct, h.xc⟩ w
end
theorem seq_cut {s : S} {ss : Ss} {env : DEnv} {M : Mem} {nx : DEnv → Mem → Prop} {rt : DK1} {bk ct : DEnv → Mem → Prop} {xc : Ex → DEnv → Mem → Prop} (J : DEnv → Mem → Prop)
    (h1 : wpS g cl s env M ⟨J, rt, bk, ct, xc⟩) (h2 : ∀ e m, J e m → wpSs g cl ss e m ⟨nx, rt, bk, ct, xc⟩) : wpSs g cl (.cons s ss) env M ⟨nx, rt, bk, ct, xc⟩ :=
  monoS hc s _ _ ⟨J, rt, bk, ct, xc⟩ ⟨fun e m => wpSs g cl ss e m ⟨nx, rt, bk, ct, xc⟩, rt, bk, ct, xc⟩ ⟨fun e m q => h2 e m q, fun _ _ q => q, fun _ _ q => q, fun _ _ q => q, fun _ _ _ q => q⟩ h1
end
theorem mono_wpF {g : G} {fs : Nat → Option Fd} : ∀ n, MonoC (wpF g fs n)
  | 0 => fun f ds M Q Q' X X' hq hx w => w.elim
  | n + 1 => fun f ds M Q Q' X X' hq hx w => opt_mono (fun d r => ⟨r.1, monoSs (mono_wpF n) d.body _ _ ⟨fun e m => Q .non (dropE e m d.dr), Q, fun _ _ => False, fun _ _ => False, fun x _ m => X x m⟩ ⟨fun e m => Q' .non (dropE e m d.dr), Q', fun _ _ => False, fun _ _ => False, fun x _ m => X' x m⟩ ⟨fun e m q => hq _ _ q, hq, fun _ _ q => q, fun _ _ q => q, fun x e m q => hx _ _ q⟩ r.2⟩) w
theorem call_mono {g : G} {fs : Nat → Option Fd} {n f : Nat} {ds : List D} {M : Mem} {Q Q' : DK1} {X X' : XK1} {a : Hid Q} {b : Hid X} {c : Hid Q'} {d : Hid X'} (hq : LeQ Q Q') (hx : LeX X X') (w : callH (wpF g fs n) f ds M Q X a b) : callH (wpF g fs n) f ds M Q' X' c d :=
  mono_wpF n _ _ _ _ _ _ _ hq hx w
theorem cutF {g : G} {fs : Nat → Option Fd} {n : Nat} {s : S} {ss : Ss} {env : DEnv} {M : Mem} {nx : DEnv → Mem → Prop} {rt : DK1} {bk ct : DEnv → Mem → Prop} {xc : Ex → DEnv → Mem → Prop} (J : DEnv → Mem → Prop)
    (h1 : ∀ J' : DEnv → Mem → Prop, (∀ e m, J e m → J' e m) → wpS g (wpF g fs n) s env M ⟨J', rt, bk, ct, xc⟩) (h2 : ∀ e m, J e m → wpSs g (wpF g fs n) ss e m ⟨nx, rt, bk, ct, xc⟩) : wpSs g (wpF g fs n) (.cons s ss) env M ⟨nx, rt, bk, ct, xc⟩ := seq_cut (mono_wpF n) J (h1 J fun _ _ q => q) h2
end Wp
namespace Wp
open PySem L2 Lw
theorem rngL_def {a b : Int} : rngL a b = (List.range (b - a).toNat).map (fun i : Nat => D.int (a + (i : Int))) := rfl
section
variable {g : G} {cl : Calls} {env : DEnv} {M : Mem} {P : Post} {gd : Guard} {tg : Tg} {body : Ss} {own : List Nat} {t : Ot} {elt : E} {Q : DK1} {mm : Bool}
theorem forH_anyT {a : Hid tg} {b : Hid body} {c : Hid P} {h : Hid gd} {α : Type} {xs : List α} {enc : α → D} (p : α → Bool) (J : DEnv → Prop) (R N : Prop) (h0 : J env) (hg : gd M)
    (hs : ∀ x ∈ xs, ∀ e, J e → ∃ e', J e' ∧ ∀ k, turnF g cl tg body P (enc x) e M k = if p x = true then R else k e' M)
    (he : ∀ e, J e → P.nx e M = N) : forH g cl tg body P gd (xs.map enc) env M a b c h = if xs.any p = true then R else N := by
  unfold forH
  induction xs generalizing env with
  | nil =>
    simp only [List.map_nil, List.any_nil, Bool.false_eq_true, if_false, forLoop, hg, true_and]
    exact he _ h0
  | cons d ds ih =>
    simp only [List.map_cons, forLoop, hg, true_and]
    obtain ⟨e', j, q⟩ := hs d List.mem_cons_self env h0
    rw [q]
    by_cases hp : p d = true
    · simp [hp]
    · simp only [hp, Bool.false_eq_true, if_false, List.any_cons, Bool.false_or, ↓reduceIte]
      exact ih j fun d' hd => hs d' (List.mem_cons_of_mem _ hd)
theorem lcH_mapT {a : Hid own} {b : Hid tg} {c : Hid t} {e : Hid elt} {h : Hid gd} {q : Hid Q} {α : Type} {xs : List α} {enc : α → D} (f : α → D) (hg : gd M) (hl : xs.length ≤ 16777216)
    (hs : ∀ x ∈ xs, ∀ k, turnL g cl own tg t elt env (enc x) M k = k (some (f x)) M) : lcH g cl mm own tg t elt gd (xs.map enc) env M Q a b c e h q = fin mm (.lst (xs.map f)) M Q :=
  lcH_map xs enc f rfl hg hl hs
/-- for x in xs: it ends (R) at the first that p finds, or goes on -/
theorem forH_anyB {a : Hid tg} {b : Hid body} {c : Hid P} {h : Hid gd} {α : Type} {xs : List α} {enc : α → D} (p : α → Bool) (J : DEnv → Prop) (R : Prop) (h0 : J env) (hg : gd M)
    (hs : ∀ x ∈ xs, ∀ e k, J e → (p x = true → R) → (p x = false → ∀ e', J e' → k e' M) → turnF g cl tg body P (enc x) e M k)
    (hR : xs.any p = true → R) (he : xs.any p = false → ∀ e, J e → P.nx e M) : forH g cl tg body P gd (xs.map enc) env M a b c h := by
  unfold forH
  induction xs generalizing env with
  | nil => exact ⟨hg, he rfl _ h0⟩
  | cons d ds ih =>
    refine ⟨hg, hs d List.mem_cons_self env _ h0 (fun q => hR (by simp [q])) fun q e' j => ?_⟩
    exact ih j (fun x hx => hs x (List.mem_cons_of_mem _ hx)) (fun r => hR (by simp [r])) fun r => he (by simp only [List.any_cons, q, r, Bool.or_self])
end
theorem fin_and {p : Prop} [Decidable p] {b : Bool} {Q : DK1} {M : Mem} : (if p then Q (.bl b) M else Q (.bl false) M) = Q (.bl (decide p && b)) M := by
  by_cases h : p <;> simp [h]
theorem fin_or {p : Prop} [Decidable p] {b : Bool} {Q : DK1} {M : Mem} : (if p then Q (.bl true) M else Q (.bl b) M) = Q (.bl (decide p || b)) M := by
  by_cases h : p <;> simp [h]
theorem fin_not {p : Prop} [Decidable p] {b : Bool} {Q : DK1} {M : Mem} : (if p then Q (.bl false) M else Q (.bl b) M) = Q (.bl (!decide p && b)) M := by
  by_cases h : p <;> simp [h]
theorem make_i {g : G} {cl : Calls} {c f : Nat} {ds : List D} {M : Mem} {Q : DK1} {X : XK1} {a : Hid Q} {b : Hid X} (hf : g.ini c = some f)
    (k : ∀ a, M a = none → callH cl f (.loc a :: ds) (M.set a (.ins c [] [])) (fun v M2 => v = .non ∧ opt (frzF M2 (.loc a)) fun p => Q p.1 p.2) X .mk .mk) : makeH g cl c true ds M Q X a b := by
  intro l hl
  rw [hf]
  exact k l hl
theorem make_m {g : G} {cl : Calls} {c f : Nat} {ds : List D} {M : Mem} {Q : DK1} {X : XK1} {a : Hid Q} {b : Hid X} (hf : g.ini c = some f)
    (k : ∀ a, M a = none → callH cl f (.loc a :: ds) (M.set a (.ins c [] [])) (fun v M2 => v = .non ∧ Q (.loc a) M2) X .mk .mk) : makeH g cl c false ds M Q X a b := by
  intro l hl
  rw [hf]
  exact k l hl
theorem enumL_map {α : Type} {f : α → D} {xs : List α} : enumL (xs.map f) = xs.zipIdx.map fun p => D.tup [.int (p.2 : Nat), f p.1] := by
  unfold enumL
  rw [List.zipIdx_map, List.map_map]
  rfl
theorem zipL_map {α β : Type} {f : α → D} {h : β → D} {xs : List α} {ys : List β} : zipL (xs.map f) (ys.map h) = (xs.zip ys).map fun p => D.tup [f p.1, h p.2] := by
  unfold zipL
  rw [List.zip_map, List.map_map]
  rfl
theorem mem_zipIdx {α : Type} {xs : List α} {p : α × Nat} (h : p ∈ xs.zipIdx) : p.1 ∈ xs := by
  have := List.mem_zipIdx_iff_getElem?.mp h
  exact List.mem_of_getElem? this
theorem any_false {α : Type} {xs : List α} : xs.any (fun _ => false) = false := by simp
theorem lcH_B {g : G} {cl : Calls} {env : DEnv} {M : Mem} {gd : Guard} {tg : Tg} {own : List Nat} {t : Ot} {elt : E} {Q : DK1} {mm : Bool} {a : Hid own} {b : Hid tg} {c : Hid t} {e : Hid elt} {h : Hid gd} {q : Hid Q} {α : Type} {xs : List α} {enc : α → D} (f : α → D) (hg : gd M) (hl : xs.length ≤ 16777216)
    (hs : ∀ x ∈ xs, ∀ k, k (some (f x)) M → turnL g cl own tg t elt env (enc x) M k) (he : fin mm (.lst (xs.map f)) M Q) : lcH g cl mm own tg t elt gd (xs.map enc) env M Q a b c e h q := by
  unfold lcH
  have key : ∀ (ys : List α) (acc : List D), acc.length + ys.length ≤ 16777216 → (∀ x ∈ ys, ∀ k, k (some (f x)) M → turnL g cl own tg t elt env (enc x) M k) → fin mm (.lst (acc ++ ys.map f)) M Q →
      lcLoop gd (turnL g cl own tg t elt env) (fun acc M2 => fin mm (.lst acc) M2 Q) (ys.map enc) acc M := by
    intro ys
    induction ys with
    | nil =>
      intro acc _ _ he
      exact ⟨hg, by simpa using he⟩
    | cons y ys ih =>
      intro acc hl hs he
      refine ⟨hg, hs y List.mem_cons_self _ ⟨?_, ih (acc ++ [f y]) (by simp only [List.length_append, List.length_cons, List.length_nil] at hl ⊢; omega) (fun x hx => hs x (List.mem_cons_of_mem _ hx)) (by simpa using he)⟩⟩
      simp only [List.length_cons] at hl
      show _ < sizeLine
      unfold sizeLine
      omega
  exact key xs [] (by simpa using hl) hs (by simpa using he)
theorem lcH_acc {g : G} {cl : Calls} {env : DEnv} {M : Mem} {gd : Guard} {items : List D} {tg : Tg} {own : List Nat} {t : Ot} {elt : E} {Q : DK1} {mm : Bool} {a : Hid own} {b : Hid tg} {c : Hid t} {e : Hid elt} {h : Hid gd} {q : Hid Q} (J : List D → List D → Mem → Prop) (h0 : J items [] M) (hg : ∀ r acc m, J r acc m → gd m) (hl : items.length ≤ 16777216)
    (hs : ∀ d rest acc m k, J (d :: rest) acc m → (∀ y m', J rest (acc ++ [y]) m' → k (some y) m') → turnL g cl own tg t elt env d m k)
    (he : ∀ acc m, J [] acc m → fin mm (.lst acc) m Q) : lcH g cl mm own tg t elt gd items env M Q a b c e h q := by
  unfold lcH
  have key : ∀ (ds acc : List D) (m : Mem), J ds acc m → acc.length + ds.length ≤ 16777216 → lcLoop gd (turnL g cl own tg t elt env) (fun acc M2 => fin mm (.lst acc) M2 Q) ds acc m := by
    intro ds
    induction ds with
    | nil => exact fun acc m j _ => ⟨hg _ _ _ j, he acc m j⟩
    | cons d ds ih =>
      intro acc m j hn
      simp only [List.length_cons] at hn
      refine ⟨hg _ _ _ j, hs d ds acc m _ j fun y m' j' => ⟨?_, ih _ _ j' (by simp only [List.length_append, List.length_cons, List.length_nil]; omega)⟩⟩
      show _ < sizeLine
      unfold sizeLine
      omega
  exact key items [] M h0 (by simpa using hl)
/-! ### texts -/
theorem joinL_nil : ∀ xs : List (List Nat), TL.joinL [] xs = xs.flatten
  | [] => rfl
  | [x] => by simp [TL.joinL]
  | x :: y :: r => by
    have := joinL_nil (y :: r)
    show x ++ ([] ++ TL.joinL [] (y :: r)) = _
    rw [this]
    simp
theorem sum_len {xs : List (List Nat)} {b : Nat} (h : ∀ x ∈ xs, x.length ≤ b) : (xs.map (·.length)).sum ≤ xs.length * b := by
  induction xs with
  | nil => simp
  | cons x xs ih =>
    simp only [List.map_cons, List.sum_cons, List.length_cons, Nat.succ_mul]
    have h1 := h x List.mem_cons_self
    have h2 := ih fun y hy => h y (List.mem_cons_of_mem _ hy)
    omega
theorem join_flat {xs : List (List Nat)} (h : (xs.map (·.length)).sum ≤ 16777216) : joinF (.str []) (.lst (xs.map D.str)) = some (.str xs.flatten) := by
  have e := strsF_map (fun x : List Nat => x) xs
  simp only [joinF, e, Option.bind_some, List.map_id', List.length_nil, Nat.mul_zero, Nat.add_zero, joinL_nil]
  rw [if_pos h]
/-- rows, each with its line end -/
def textF (rs : List (List Nat)) : List Nat := (rs.map (· ++ [10])).flatten
theorem ixN_of {n : Nat} {i : Int} (h : 0 ≤ i) (h2 : i < n) : ixN n i = some i.toNat := by
  unfold ixN
  rw [if_pos h, if_pos h2]
/-! ### lists of lists that may change -/
def setL (M : Mem) (as : List Addr) (rs : List (List D)) : Mem := fun b => match (as.zip rs).lookup b with
  | some r => some (.lst r)
  | none => M b
theorem lookup_zip {as : List Addr} {rs : List (List D)} (hn : as.Nodup) {i : Nat} {a : Addr} {r : List D} (h1 : as[i]? = some a) (h2 : rs[i]? = some r) : (as.zip rs).lookup a = some r := by
  induction as generalizing rs i with
  | nil => cases h1
  | cons b as ih =>
    cases rs with
    | nil => cases h2
    | cons s rs =>
      rw [List.nodup_cons] at hn
      cases i with
      | zero =>
        simp only [List.getElem?_cons_zero, Option.some.injEq] at h1 h2
        subst h1 h2
        simp [List.lookup]
      | succ i =>
        simp only [List.getElem?_cons_succ] at h1 h2
        have : a ≠ b := fun e => hn.1 (e ▸ List.mem_of_getElem? h1)
        simp only [List.zip_cons_cons, List.lookup]
        rw [show (a == b) = false by simp [this]]
        exact ih hn.2 h1 h2
theorem lookup_none {as : List Addr} {rs : List (List D)} {b : Addr} (h : b ∉ as) : (as.zip rs).lookup b = none := by
  induction as generalizing rs with
  | nil => rfl
  | cons a as ih =>
    cases rs with
    | nil => rfl
    | cons r rs =>
      simp only [List.mem_cons, not_or] at h
      simp only [List.zip_cons_cons, List.lookup]
      rw [show (b == a) = false by simp [h.1]]
      exact ih h.2
theorem setL_at {M : Mem} {as : List Addr} {rs : List (List D)} (hn : as.Nodup) {i : Nat} {a : Addr} {r : List D} (h1 : as[i]? = some a) (h2 : rs[i]? = some r) : setL M as rs a = some (.lst r) := by
  unfold setL
  rw [lookup_zip hn h1 h2]
theorem setL_out {M : Mem} {as : List Addr} {rs : List (List D)} {b : Addr} (h : b ∉ as) : setL M as rs b = M b := by
  unfold setL
  rw [lookup_none h]
theorem setL_set {M : Mem} {as : List Addr} {rs : List (List D)} (hn : as.Nodup) (hl : as.length = rs.length) {i : Nat} {a : Addr} {r : List D} (h1 : as[i]? = some a) : (setL M as rs).set a (.lst r) = setL M as (rs.set i r) := by
  have hi : i < rs.length := by rw [← hl]; exact (List.getElem?_eq_some_iff.mp h1).1
  funext b
  by_cases e : b = a
  · subst e
    rw [Mem.set_same, setL_at hn h1 (by rw [List.getElem?_set_self hi])]
  · rw [Mem.set_ne e]
    by_cases hb : b ∈ as
    · obtain ⟨j, hj⟩ := List.getElem?_of_mem hb
      have hjl : j < rs.length := by rw [← hl]; exact (List.getElem?_eq_some_iff.mp hj).1
      have hij : i ≠ j := by
        rintro rfl
        rw [hj] at h1
        exact e (Option.some.inj h1)
      rw [setL_at hn hj (List.getElem?_eq_getElem hjl), setL_at hn hj (by rw [List.getElem?_set_ne hij, List.getElem?_eq_getElem hjl])]
    · rw [setL_out hb, setL_out hb]
theorem setL_nil {M : Mem} : setL M [] [] = M := rfl
theorem setL_snoc {M : Mem} {as : List Addr} {rs : List (List D)} (hl : as.length = rs.length) {a : Addr} {r : List D} (ha : a ∉ as) : (setL M as rs).set a (.lst r) = setL M (as ++ [a]) (rs ++ [r]) := by
  funext b
  unfold setL Mem.set
  rw [List.zip_append hl, List.lookup_append]
  by_cases e : b = a
  · subst e
    rw [if_pos rfl, lookup_none ha]
    simp [List.lookup]
  · rw [if_neg e]
    cases q : (as.zip rs).lookup b with
    | some r => simp [q]
    | none => simp [List.lookup, e, q, show (b == a) = false by simp [e]]
theorem delL_locs {M : Mem} {as : List Addr} : ∀ b, delL M (as.map .loc) b = if b ∈ as then none else M b := by
  induction as generalizing M with
  | nil => intro b; simp [delL]
  | cons a as ih =>
    intro b
    simp only [List.map_cons, delL]
    rw [ih b]
    by_cases h : b ∈ as
    · simp [h]
    · by_cases e : b = a
      · subst e
        rw [if_neg h, if_pos List.mem_cons_self, Mem.del_same]
      · rw [if_neg h, Mem.del_ne e, if_neg (by simp [e, h])]
theorem setL_del {M : Mem} {as : List Addr} {rs : List (List D)} (hf : ∀ a ∈ as, M a = none) : delL (setL M as rs) (as.map .loc) = M := by
  funext b
  rw [delL_locs]
  by_cases h : b ∈ as
  · rw [if_pos h, hf b h]
  · rw [if_neg h, setL_out h]
theorem setL_none {M : Mem} {as : List Addr} {rs : List (List D)} (hl : as.length = rs.length) {a : Addr} (h : setL M as rs a = none) : a ∉ as ∧ M a = none := by
  have hn : a ∉ as := by
    intro hm
    have key : ∀ (as : List Addr) (rs : List (List D)), as.length = rs.length → a ∈ as → (as.zip rs).lookup a ≠ none := by
      intro as
      induction as with
      | nil => intro rs _ h; cases h
      | cons b as ih =>
        intro rs hl hm
        cases rs with
        | nil => cases hl
        | cons r rs =>
          simp only [List.zip_cons_cons, List.lookup]
          by_cases e : a = b
          · simp [e]
          · rw [show (a == b) = false by simp [e]]
            exact ih rs (by simpa using hl) (by rcases List.mem_cons.mp hm with q | q; exact absurd q e; exact q)
    unfold setL at h
    split at h
    · cases h
    · rename_i q
      exact key as rs hl hm q
  rw [setL_out hn] at h
  exact ⟨hn, h⟩
section
variable {g : G} {cl : Calls} {env : DEnv} {M : Mem} {P : Post} {gd : Guard} {tg : Tg} {body : Ss}
theorem rngL_cons {a b : Int} (h : a < b) : rngL a b = .int a :: rngL (a + 1) b := by
  unfold rngL
  obtain ⟨n, hn⟩ : ∃ n : Nat, (b - a).toNat = n + 1 := ⟨(b - a).toNat - 1, by omega⟩
  rw [hn, show (b - (a + 1)).toNat = n by omega, List.range_succ_eq_map, List.map_cons, List.map_map]
  congr 1
  · simp
  · apply List.map_congr_left
    intro i _
    show D.int (a + ((i + 1 : Nat) : Int)) = D.int (a + 1 + (i : Int))
    congr 1
    omega
theorem rngL_nil {a b : Int} (h : b ≤ a) : rngL a b = [] := by
  unfold rngL
  rw [show (b - a).toNat = 0 by omega]
  rfl
/-- for i in range(a, b) -/
theorem forH_rng {a' : Hid tg} {b' : Hid body} {c' : Hid P} {h' : Hid gd} {a b : Int} (J : Int → DEnv → Mem → Prop) (hab : a ≤ b) (h0 : J a env M) (hg : ∀ m, gd m)
    (hs : ∀ i e m k, a ≤ i → i < b → J i e m → (∀ e' m', J (i + 1) e' m' → k e' m') → turnF g cl tg body P (.int i) e m k)
    (he : ∀ e m, J b e m → P.nx e m) : forH g cl tg body P gd (rngL a b) env M a' b' c' h' := by
  unfold forH
  have key : ∀ (n : Nat) (i : Int) (e : DEnv) (m : Mem), a ≤ i → i ≤ b → (b - i).toNat = n → J i e m → forLoop gd (turnF g cl tg body P) P.nx (rngL i b) e m := by
    intro n
    induction n with
    | zero =>
      intro i e m h1 h2 h3 j
      rw [rngL_nil (by omega)]
      have : i = b := by omega
      subst this
      exact ⟨hg m, he e m j⟩
    | succ n ih =>
      intro i e m h1 h2 h3 j
      rw [rngL_cons (by omega)]
      exact ⟨hg m, hs i e m _ h1 (by omega) j fun e' m' j' => ih (i + 1) e' m' (by omega) (by omega) (by omega) j'⟩
  exact key _ a env M (by omega) hab rfl h0
/-- for x in xs, its place known -/
theorem forH_ix {a' : Hid tg} {b' : Hid body} {c' : Hid P} {h' : Hid gd} {α : Type} {xs : List α} {enc : α → D} (J : Nat → DEnv → Mem → Prop) (h0 : J 0 env M) (hg : ∀ i e m, J i e m → gd m)
    (hs : ∀ i x e m k, xs[i]? = some x → J i e m → (∀ e' m', J (i + 1) e' m' → k e' m') → turnF g cl tg body P (enc x) e m k)
    (he : ∀ e m, J xs.length e m → P.nx e m) : forH g cl tg body P gd (xs.map enc) env M a' b' c' h' := by
  unfold forH
  have key : ∀ (ys : List α) (i : Nat) (e : DEnv) (m : Mem), xs.drop i = ys → i + ys.length = xs.length → J i e m → forLoop gd (turnF g cl tg body P) P.nx (ys.map enc) e m := by
    intro ys
    induction ys with
    | nil =>
      intro i e m h1 h2 j
      have : i = xs.length := by simpa using h2
      subst this
      exact ⟨hg _ _ _ j, he e m j⟩
    | cons y ys ih =>
      intro i e m h1 h2 j
      have h3 : xs[i]? = some y := by
        have := congrArg (·[0]?) h1
        simpa using this
      refine ⟨hg _ _ _ j, hs i y e m _ h3 j fun e' m' j' => ih (i + 1) e' m' ?_ (by simp only [List.length_cons] at h2; omega) j'⟩
      have := congrArg (List.drop 1) h1
      rw [List.drop_drop] at this
      simpa using this
  exact key xs 0 env M rfl (by simp) h0
end
theorem textF_len {rs : List (List Nat)} {W : Nat} (h : ∀ r ∈ rs, r.length = W) : (textF rs).length = rs.length * (W + 1) := by
  unfold textF
  induction rs with
  | nil => simp
  | cons r rs ih =>
    have h1 := h r List.mem_cons_self
    have h2 := ih fun x hx => h x (List.mem_cons_of_mem _ hx)
    simp only [List.map_cons, List.flatten_cons, List.length_append, List.length_cons, List.length_nil, Nat.succ_mul] at h2 ⊢
    omega
theorem textF_snoc {rs : List (List Nat)} {r : List Nat} : textF (rs ++ [r]) = textF rs ++ (r ++ [10]) := by
  simp [textF]
/-! ### a cut behind some statements -/
def takeS : Nat → Ss → Ss
  | 0, _ => .nil
  | _, .nil => .nil
  | n + 1, .cons s ss => .cons s (takeS n ss)
def dropS : Nat → Ss → Ss
  | 0, ss => ss
  | _, .nil => .nil
  | n + 1, .cons _ ss => dropS n ss
theorem wpSs_split {g : G} {cl : Calls} {nx : DEnv → Mem → Prop} {rt : DK1} {bk ct : DEnv → Mem → Prop} {xc : Ex → DEnv → Mem → Prop} : ∀ (n : Nat) (ss : Ss) (env : DEnv) (M : Mem),
    wpSs g cl ss env M ⟨nx, rt, bk, ct, xc⟩ = wpSs g cl (takeS n ss) env M ⟨fun e m => wpSs g cl (dropS n ss) e m ⟨nx, rt, bk, ct, xc⟩, rt, bk, ct, xc⟩
  | 0, ss, env, M => rfl
  | n + 1, .nil, env, M => rfl
  | n + 1, .cons s ss, env, M => by
    have e : (fun e m => wpSs g cl ss e m ⟨nx, rt, bk, ct, xc⟩) = fun e m => wpSs g cl (takeS n ss) e m ⟨fun e m => wpSs g cl (dropS n ss) e m ⟨nx, rt, bk, ct, xc⟩, rt, bk, ct, xc⟩ := by
      funext e m
      exact wpSs_split n ss e m
    rw [u_scons, e]
    rfl
theorem cutN {g : G} {fs : Nat → Option Fd} {n : Nat} {ss : Ss} {env : DEnv} {M : Mem} {nx : DEnv → Mem → Prop} {rt : DK1} {bk ct : DEnv → Mem → Prop} {xc : Ex → DEnv → Mem → Prop} (k : Nat) (J : DEnv → Mem → Prop)
    (h1 : ∀ J' : DEnv → Mem → Prop, (∀ e m, J e m → J' e m) → wpSs g (wpF g fs n) (takeS k ss) env M ⟨J', rt, bk, ct, xc⟩)
    (h2 : ∀ e m, J e m → wpSs g (wpF g fs n) (dropS k ss) e m ⟨nx, rt, bk, ct, xc⟩) : wpSs g (wpF g fs n) ss env M ⟨nx, rt, bk, ct, xc⟩ := by
  rw [wpSs_split k]
  exact monoSs (mono_wpF n) _ _ _ ⟨J, rt, bk, ct, xc⟩ _ ⟨fun e m q => h2 e m q, fun _ _ q => q, fun _ _ q => q, fun _ _ q => q, fun _ _ _ q => q⟩ (h1 J fun _ _ q => q)
end Wp

set_option Elab.async false
set_option linter.all false
set_option maxRecDepth 100000
set_option maxHeartbeats 0
namespace S
open PySem PySem.Spec PyProof.Rows L2 Lw Wp
def top (i : Nat) : Stmt := PySem.Challenge.pw_swornworlds_k72_whole_screens_show_what.main.body.getD i (.Pass ⟨0, 0, 0, 0⟩)
/-! numbers of names, of defs, of constants -/
abbrev N_Ground : Nat := 0
abbrev N_rows : Nat := 1
abbrev N_wide : Nat := 2
abbrev N_high : Nat := 3
abbrev N_Kind : Nat := 4
abbrev N_solid : Nat := 5
abbrev N_pull : Nat := 6
abbrev N_program : Nat := 7
abbrev N_Game : Nat := 8
abbrev N_players : Nat := 9
abbrev N_ground : Nat := 10
abbrev N_kinds : Nat := 11
abbrev N_births : Nat := 12
abbrev N_World : Nat := 13
abbrev N_tick : Nat := 14
abbrev N_seed : Nat := 15
abbrev N_shared : Nat := 16
abbrev N_count : Nat := 17
abbrev N_bodies : Nat := 18
abbrev N_said : Nat := 19
abbrev N_Screen : Nat := 20
abbrev N_played : Nat := 21
abbrev N_drawing : Nat := 22
abbrev N_times : Nat := 23
abbrev N_NoWorld : Nat := 24
abbrev N_show : Nat := 25
abbrev N_shown : Nat := 26
abbrev N_picture : Nat := 27
abbrev N_Program : Nat := 28
abbrev F_is_integer : Nat := 0
abbrev F_is_within : Nat := 1
abbrev F_is_small : Nat := 2
abbrev F_is_below : Nat := 3
abbrev F_is_sized : Nat := 4
abbrev F_are_small : Nat := 5
abbrev F_is_word : Nat := 6
abbrev F_is_row : Nat := 7
abbrev F_spanned : Nat := 8
abbrev F_opens : Nat := 9
abbrev F_shares : Nat := 10
abbrev F_is_clear : Nat := 11
abbrev F_is_birth : Nat := 12
abbrev F_is_seed : Nat := 13
abbrev F_is_speed : Nat := 14
abbrev F_is_body : Nat := 15
abbrev F_are_bodies : Nat := 16
abbrev F_fits : Nat := 17
abbrev F_check_world : Nat := 18
abbrev F_rows_of : Nat := 19
abbrev F_text_of_rows : Nat := 20
abbrev F_ground_picture : Nat := 21
abbrev F_letter_of_body : Nat := 22
abbrev F_picture_of : Nat := 23
abbrev F_drawn : Nat := 24
abbrev F_changes_between : Nat := 25
abbrev F_body_line : Nat := 26
abbrev F_lines_of_bodies : Nat := 27
abbrev F_body_lines : Nat := 28
abbrev F_law_hand : Nat := 29
abbrev F_law_take : Nat := 30
abbrev F_law_pick : Nat := 31
abbrev F_law_wide : Nat := 32
abbrev F_law_small : Nat := 33
abbrev F_law_seed : Nat := 34
abbrev F_law_is_integer : Nat := 35
abbrev F_law_same : Nat := 36
abbrev F_law_odd : Nat := 37
abbrev F_law_ground_sign : Nat := 38
abbrev F_law_rows : Nat := 39
abbrev F_law_ground : Nat := 40
abbrev F_law_sign : Nat := 41
abbrev F_law_spots : Nat := 42
abbrev F_law_open : Nat := 43
abbrev F_law_common : Nat := 44
abbrev F_law_clear : Nat := 45
abbrev F_law_kind : Nat := 46
abbrev F_law_kinds : Nat := 47
abbrev F_law_place : Nat := 48
abbrev F_law_placed : Nat := 49
abbrev F_law_speed : Nat := 50
abbrev F_law_bodies : Nat := 51
abbrev F_law_count_of : Nat := 52
abbrev F_law_tick : Nat := 53
abbrev F_law_said : Nat := 54
abbrev F_law_parts : Nat := 55
abbrev F_law_world_of : Nat := 56
abbrev F_law_program_of : Nat := 57
abbrev F_law_kind_of : Nat := 58
abbrev F_law_game_of : Nat := 59
abbrev F_law_closed : Nat := 60
abbrev F_law_shown_sign : Nat := 61
abbrev F_law_shown : Nat := 62
abbrev F_law_differences : Nat := 63
abbrev F_law_bodies_text : Nat := 64
abbrev F_law_show : Nat := 65
abbrev F_law_lines_told : Nat := 66
abbrev F_law : Nat := 67
abbrev F_Ground_init : Nat := 68
abbrev F_Kind_init : Nat := 69
abbrev F_Game_init : Nat := 70
abbrev F_World_init : Nat := 71
abbrev F_Screen_init : Nat := 72
abbrev F_Screen_show : Nat := 73
abbrev F_Screen_picture : Nat := 74
abbrev F_Screen_shown : Nat := 75
abbrev K_MOST_SMALL : Nat := 0
abbrev K_LEAST_SMALL : Nat := 1
abbrev K_MOST_SIGNS : Nat := 2
abbrev K_FREE : Nat := 3
abbrev K_WALL : Nat := 4
abbrev K_MARKS : Nat := 5
abbrev K_CELL : Nat := 6
abbrev K_PRIME : Nat := 7
abbrev K_MOST_SPEED : Nat := 8
abbrev K_MANY_CELLS : Nat := 9
abbrev K_MOST_BODIES_worlds : Nat := 10
abbrev K_MOST_TICK : Nat := 11
abbrev K_MANY_SHARED : Nat := 12
abbrev K_MOST_SAID : Nat := 13
abbrev K_LINE_END : Nat := 14
abbrev K_LETTERS : Nat := 15
abbrev K_BLANK : Nat := 16
abbrev K_MOST_ROWS : Nat := 17
abbrev K_MOST_SIDE : Nat := 18
abbrev K_MOST_PULL : Nat := 19
abbrev K_MOST_PLAYERS : Nat := 20
abbrev K_MOST_KINDS : Nat := 21
abbrev K_MOST_BIRTHS : Nat := 22
/-! 0: is_integer(thing); names 0=thing -/
abbrev d_is_integer : Ss := (.cons (.ret [] (.and (.bi false (.isi [.int]) (.cons (.var 0) .nil)) (.not (.bi false (.isi [.bool]) (.cons (.var 0) .nil))))) .nil)
/-! 1: is_within(thing, least, most); names 0=thing 1=least 2=most -/
abbrev d_is_within : Ss := (.cons (.ret [] (.and (.call F_is_integer (.cons (.var 0) .nil)) (.chn .le .le (.var 1) (.var 0) (.var 2)))) .nil)
/-! 2: is_small(thing); names 0=thing -/
abbrev d_is_small : Ss := (.cons (.ret [] (.call F_is_within (.cons (.var 0) (.cons (.glb K_LEAST_SMALL) (.cons (.glb K_MOST_SMALL) .nil))))) .nil)
/-! 3: is_below(thing, many); names 0=thing 1=many -/
abbrev d_is_below : Ss := (.cons (.ret [] (.call F_is_within (.cons (.var 0) (.cons (.cst (.int 0)) (.cons (.bin false .sub (.var 1) (.cst (.int 1))) .nil))))) .nil)
/-! 4: is_sized(thing, least, most); names 0=thing 1=least 2=most -/
abbrev d_is_sized : Ss := (.cons (.ret [] (.and (.bi false (.isi [.tup]) (.cons (.var 0) .nil)) (.chn .le .le (.var 1) (.bi false .len (.cons (.var 0) .nil)) (.var 2)))) .nil)
/-! 5: are_small(thing, many); names 0=thing 1=many 2=item -/
abbrev d_are_small : Ss := (.cons (.ret [] (.and (.call F_is_sized (.cons (.var 0) (.cons (.var 1) (.cons (.var 1) .nil)))) (.bi false .all (.cons (.lc false [2] (.of (.var 0)) (.name 2) .none (.call F_is_small (.cons (.var 2) .nil))) .nil)))) .nil)
/-! 6: is_word(thing, words); names 0=thing 1=words -/
abbrev d_is_word : Ss := (.cons (.ret [] (.and (.bi false (.isi [.str]) (.cons (.var 0) .nil)) (.cmp .isin (.var 0) (.var 1)))) .nil)
/-! 7: is_row(thing); names 0=thing 1=sign -/
abbrev b_is_row_0 : Ss := (.cons (.ret [] (.cst (.bl false))) .nil)
abbrev d_is_row : Ss := (.cons (.ife (.or (.not (.val (.bi false (.isi [.str]) (.cons (.var 0) .nil)))) (.not (.val (.chn .le .le (.cst (.int 1)) (.bi false .len (.cons (.var 0) .nil)) (.glb K_MOST_SIGNS))))) b_is_row_0 .nil) (.cons (.ret [] (.bi false .all (.cons (.lc false [1] (.of (.var 0)) (.name 1) .none (.cmp .isin (.var 1) (.bin false .add (.bin false .add (.glb K_FREE) (.glb K_WALL)) (.glb K_MARKS)))) .nil))) .nil))
/-! 8: spanned(begin, length); names 0=begin 1=length -/
abbrev d_spanned : Ss := (.cons (.ret [] (.bi false .lrng2 (.cons (.bin false .fdiv (.var 0) (.glb K_CELL)) (.cons (.bin false .add (.bin false .fdiv (.bin false .sub (.bin false .add (.var 0) (.var 1)) (.cst (.int 1))) (.glb K_CELL)) (.cst (.int 1))) .nil)))) .nil)
/-! 9: opens(ground, x, y, wide, high); names 0=ground 1=x 2=y 3=wide 4=high 5=row 6=column -/
abbrev b_opens_0 : Ss := (.cons (.ret [] (.cst (.bl false))) .nil)
abbrev b_opens_2 : Ss := (.cons (.ret [] (.cst (.bl false))) .nil)
abbrev b_opens_1 : Ss := (.cons (.ife (.val (.bi false .any (.cons (.lc false [6] (.of (.call F_spanned (.cons (.var 1) (.cons (.var 3) .nil)))) (.name 6) .none (.cmp .eq (.idx (.idx (.fld (.var 0) N_rows) (.var 5)) (.var 6)) (.glb K_WALL))) .nil))) b_opens_2 .nil) .nil)
abbrev d_opens : Ss := (.cons (.ife (.or (.val (.cmp .lt (.var 1) (.cst (.int 0)))) (.or (.val (.cmp .lt (.var 2) (.cst (.int 0)))) (.or (.val (.cmp .gt (.bin false .add (.var 1) (.var 3)) (.fld (.var 0) N_wide))) (.val (.cmp .gt (.bin false .add (.var 2) (.var 4)) (.fld (.var 0) N_high)))))) b_opens_0 .nil) (.cons (.forr (.name 5) (.of (.call F_spanned (.cons (.var 2) (.cons (.var 4) .nil)))) b_opens_1) (.cons (.ret [] (.cst (.bl true))) .nil)))
/-! 10: shares(kind, x, y, other, left, top); names 0=kind 1=x 2=y 3=other 4=left 5=top -/
abbrev b_shares_0 : Ss := (.cons (.ret [] (.cst (.bl false))) .nil)
abbrev d_shares : Ss := (.cons (.ife (.or (.val (.cmp .ge (.var 1) (.bin false .add (.var 4) (.fld (.var 3) N_wide)))) (.val (.cmp .ge (.var 4) (.bin false .add (.var 1) (.fld (.var 0) N_wide))))) b_shares_0 .nil) (.cons (.ret [] (.and (.cmp .lt (.var 2) (.bin false .add (.var 5) (.fld (.var 3) N_high))) (.cmp .lt (.var 5) (.bin false .add (.var 2) (.fld (.var 0) N_high))))) .nil))
/-! 11: is_clear(ground, kinds, number, x, y, placed); names 0=ground 1=kinds 2=number 3=x 4=y 5=placed 6=kind 7=other 8=left 9=top -/
abbrev b_is_clear_0 : Ss := (.cons (.ret [] (.cst (.bl false))) .nil)
abbrev b_is_clear_1 : Ss := (.cons (.ret [] (.cst (.bl true))) .nil)
abbrev b_is_clear_3 : Ss := (.cons (.ret [] (.cst (.bl false))) .nil)
abbrev b_is_clear_2 : Ss := (.cons (.ife (.and (.val (.fld (.idx (.var 1) (.var 7)) N_solid)) (.val (.call F_shares (.cons (.var 6) (.cons (.var 3) (.cons (.var 4) (.cons (.idx (.var 1) (.var 7)) (.cons (.var 8) (.cons (.var 9) .nil))))))))) b_is_clear_3 .nil) .nil)
abbrev d_is_clear : Ss := (.cons (.set (.name 6) (.idx (.var 1) (.var 2))) (.cons (.ife (.not (.val (.call F_opens (.cons (.var 0) (.cons (.var 3) (.cons (.var 4) (.cons (.fld (.var 6) N_wide) (.cons (.fld (.var 6) N_high) .nil)))))))) b_is_clear_0 .nil) (.cons (.ife (.not (.val (.fld (.var 6) N_solid))) b_is_clear_1 .nil) (.cons (.forr (.tup (.cons (.name 7) (.cons (.name 8) (.cons (.name 9) .nil)))) (.of (.var 5)) b_is_clear_2) (.cons (.ret [] (.cst (.bl true))) .nil)))))
/-! 12: is_birth(players, kinds, thing); names 0=players 1=kinds 2=thing -/
abbrev b_is_birth_0 : Ss := (.cons (.ret [] (.cst (.bl false))) .nil)
abbrev d_is_birth : Ss := (.cons (.ife (.or (.not (.val (.call F_is_sized (.cons (.var 2) (.cons (.cst (.int 4)) (.cons (.cst (.int 4)) .nil)))))) (.not (.val (.call F_is_within (.cons (.idx (.var 2) (.cst (.int 0))) (.cons (.cst (.int 0)) (.cons (.bin false .sub (.bi false .len (.cons (.var 1) .nil)) (.cst (.int 1))) .nil))))))) b_is_birth_0 .nil) (.cons (.ret [] (.and (.call F_is_integer (.cons (.idx (.var 2) (.cst (.int 1))) .nil)) (.and (.call F_is_integer (.cons (.idx (.var 2) (.cst (.int 2))) .nil)) (.call F_is_within (.cons (.idx (.var 2) (.cst (.int 3))) (.cons (.neg (.cst (.int 1))) (.cons (.bin false .sub (.var 0) (.cst (.int 1))) .nil))))))) .nil))
/-! 13: is_seed(thing); names 0=thing -/
abbrev d_is_seed : Ss := (.cons (.ret [] (.call F_is_within (.cons (.var 0) (.cons (.cst (.int 1)) (.cons (.bin false .sub (.glb K_PRIME) (.cst (.int 1))) .nil))))) .nil)
/-! 14: is_speed(thing); names 0=thing -/
abbrev d_is_speed : Ss := (.cons (.ret [] (.call F_is_within (.cons (.var 0) (.cons (.neg (.glb K_MOST_SPEED)) (.cons (.glb K_MOST_SPEED) .nil))))) .nil)
/-! 15: is_body(game, count, thing); names 0=game 1=count 2=thing -/
abbrev b_is_body_0 : Ss := (.cons (.ret [] (.cst (.bl false))) .nil)
abbrev b_is_body_1 : Ss := (.cons (.ret [] (.cst (.bl false))) .nil)
abbrev b_is_body_2 : Ss := (.cons (.ret [] (.cst (.bl false))) .nil)
abbrev d_is_body : Ss := (.cons (.ife (.or (.not (.val (.call F_is_sized (.cons (.var 2) (.cons (.cst (.int 8)) (.cons (.cst (.int 8)) .nil)))))) (.not (.val (.call F_is_within (.cons (.idx (.var 2) (.cst (.int 0))) (.cons (.cst (.int 0)) (.cons (.bin false .sub (.var 1) (.cst (.int 1))) .nil))))))) b_is_body_0 .nil) (.cons (.ife (.or (.not (.val (.call F_is_within (.cons (.idx (.var 2) (.cst (.int 1))) (.cons (.cst (.int 0)) (.cons (.bin false .sub (.bi false .len (.cons (.fld (.var 0) N_kinds) .nil)) (.cst (.int 1))) .nil)))))) (.or (.not (.val (.call F_is_integer (.cons (.idx (.var 2) (.cst (.int 2))) .nil)))) (.not (.val (.call F_is_integer (.cons (.idx (.var 2) (.cst (.int 3))) .nil)))))) b_is_body_1 .nil) (.cons (.ife (.or (.not (.val (.call F_is_speed (.cons (.idx (.var 2) (.cst (.int 4))) .nil)))) (.or (.not (.val (.call F_is_speed (.cons (.idx (.var 2) (.cst (.int 5))) .nil)))) (.not (.val (.call F_is_within (.cons (.idx (.var 2) (.cst (.int 6))) (.cons (.neg (.cst (.int 1))) (.cons (.bin false .sub (.fld (.var 0) N_players) (.cst (.int 1))) .nil)))))))) b_is_body_2 .nil) (.cons (.ret [] (.call F_are_small (.cons (.idx (.var 2) (.cst (.int 7))) (.cons (.glb K_MANY_CELLS) .nil)))) .nil))))
/-! 16: are_bodies(game, count, thing); names 0=game 1=count 2=thing 3=placed 4=at 5=body 6=kind 7=x 8=y 9=one 10=other -/
abbrev b_are_bodies_0 : Ss := (.cons (.ret [] (.cst (.bl false))) .nil)
abbrev b_are_bodies_1 : Ss := (.cons (.ret [] (.cst (.bl false))) .nil)
abbrev b_are_bodies_3 : Ss := (.cons (.ret [] (.cst (.bl false))) .nil)
abbrev b_are_bodies_2 : Ss := (.cons (.ife (.not (.val (.call F_is_clear (.cons (.fld (.var 0) N_ground) (.cons (.fld (.var 0) N_kinds) (.cons (.var 6) (.cons (.var 7) (.cons (.var 8) (.cons (.sl false (.var 3) .none (.some (.var 4))) .nil))))))))) b_are_bodies_3 .nil) .nil)
abbrev d_are_bodies : Ss := (.cons (.ife (.or (.not (.val (.call F_is_sized (.cons (.var 2) (.cons (.cst (.int 0)) (.cons (.glb K_MOST_BODIES_worlds) .nil)))))) (.not (.val (.bi false .all (.cons (.lc false [5] (.of (.var 2)) (.name 5) .none (.call F_is_body (.cons (.var 0) (.cons (.var 1) (.cons (.var 5) .nil))))) .nil))))) b_are_bodies_0 .nil) (.cons (.ife (.not (.val (.bi false .all (.cons (.lc false [9, 10] (.zip (.var 2) (.sl false (.var 2) (.some (.cst (.int 1))) .none)) (.tup (.cons (.name 9) (.cons (.name 10) .nil))) .none (.cmp .lt (.idx (.var 9) (.cst (.int 0))) (.idx (.var 10) (.cst (.int 0))))) .nil)))) b_are_bodies_1 .nil) (.cons (.set (.name 3) (.lc false [5] (.of (.var 2)) (.name 5) .none (.sl false (.var 5) (.some (.cst (.int 1))) (.some (.cst (.int 4)))))) (.cons (.forr (.tup (.cons (.name 4) (.cons (.tup (.cons (.name 6) (.cons (.name 7) (.cons (.name 8) .nil)))) .nil))) (.enum (.of (.var 3))) b_are_bodies_2) (.cons (.ret [] (.cst (.bl true))) .nil)))))
/-! 17: fits(game, thing); names 0=game 1=thing 2=item -/
abbrev b_fits_0 : Ss := (.cons (.ret [] (.cst (.bl false))) .nil)
abbrev b_fits_1 : Ss := (.cons (.ret [] (.cst (.bl false))) .nil)
abbrev b_fits_2 : Ss := (.cons (.ret [] (.cst (.bl false))) .nil)
abbrev d_fits : Ss := (.cons (.ife (.or (.not (.val (.bi false (.isi [(.cls N_World)]) (.cons (.var 1) .nil)))) (.or (.not (.val (.call F_is_within (.cons (.fld (.var 1) N_tick) (.cons (.cst (.int 0)) (.cons (.glb K_MOST_TICK) .nil)))))) (.not (.val (.call F_is_seed (.cons (.fld (.var 1) N_seed) .nil)))))) b_fits_0 .nil) (.cons (.ife (.or (.not (.val (.call F_are_small (.cons (.fld (.var 1) N_shared) (.cons (.glb K_MANY_SHARED) .nil))))) (.not (.val (.call F_is_within (.cons (.fld (.var 1) N_count) (.cons (.cst (.int 0)) (.cons (.glb K_MOST_TICK) .nil))))))) b_fits_1 .nil) (.cons (.ife (.or (.not (.val (.call F_is_sized (.cons (.fld (.var 1) N_said) (.cons (.cst (.int 0)) (.cons (.glb K_MOST_SAID) .nil)))))) (.not (.val (.bi false .all (.cons (.lc false [2] (.of (.fld (.var 1) N_said)) (.name 2) .none (.call F_is_small (.cons (.var 2) .nil))) .nil))))) b_fits_2 .nil) (.cons (.ret [] (.call F_are_bodies (.cons (.var 0) (.cons (.fld (.var 1) N_count) (.cons (.fld (.var 1) N_bodies) .nil))))) .nil))))
/-! 18: check_world(game, thing); names 0=game 1=thing -/
abbrev b_check_world_0 : Ss := (.cons (.raise N_NoWorld) .nil)
abbrev d_check_world : Ss := (.cons (.ife (.not (.val (.call F_fits (.cons (.var 0) (.cons (.var 1) .nil))))) b_check_world_0 .nil) .nil)
/-! 19: rows_of(picture); names 0=picture -/
abbrev d_rows_of : Ss := (.cons (.ret [] (.sl false (.bm false .split (.var 0) (.cons (.glb K_LINE_END) .nil)) .none (.some (.neg (.cst (.int 1)))))) .nil)
/-! 20: text_of_rows(rows); names 0=rows 1=row -/
abbrev d_text_of_rows : Ss := (.cons (.ret [] (.bm false .join (.cst (.str [])) (.cons (.lc false [1] (.of (.var 0)) (.name 1) .none (.bin false .add (.var 1) (.glb K_LINE_END))) .nil))) .nil)
/-! 21: ground_picture(game); names 0=game -/
abbrev d_ground_picture : Ss := (.cons (.ret [] (.call F_text_of_rows (.cons (.fld (.fld (.var 0) N_ground) N_rows) .nil))) .nil)
/-! 22: letter_of_body(body); names 0=body 1=letter -/
abbrev d_letter_of_body : Ss := (.cons (.set (.name 1) (.idx (.glb K_LETTERS) (.idx (.var 0) (.cst (.int 1))))) (.cons (.ret [] (.ite (.val (.cmp .lt (.idx (.var 0) (.cst (.int 6))) (.cst (.int 0)))) (.var 1) (.bm false .upper (.var 1) .nil))) .nil))
/-! 23: picture_of(game, world); names 0=game 1=world 2=rows 3=body 4=kind 5=at 6=row 7=place -/
abbrev b_picture_of_2 : Ss := (.cons (.set (.idx (.idx (.var 2) (.var 5)) (.var 7)) (.call F_letter_of_body (.cons (.var 3) .nil))) .nil)
abbrev b_picture_of_1 : Ss := (.cons (.forr (.name 7) (.of (.call F_spanned (.cons (.idx (.var 3) (.cst (.int 2))) (.cons (.fld (.var 4) N_wide) .nil)))) b_picture_of_2) .nil)
abbrev b_picture_of_0 : Ss := (.cons (.set (.name 4) (.idx (.fld (.var 0) N_kinds) (.idx (.var 3) (.cst (.int 1))))) (.cons (.forr (.name 5) (.of (.call F_spanned (.cons (.idx (.var 3) (.cst (.int 3))) (.cons (.fld (.var 4) N_high) .nil)))) b_picture_of_1) .nil))
abbrev d_picture_of : Ss := (.cons (.set (.name 2) (.lc false [6] (.of (.fld (.fld (.var 0) N_ground) N_rows)) (.name 6) .none (.bi true .list (.cons (.var 6) .nil)))) (.cons (.forr (.name 3) (.of (.rev false (.fld (.var 1) N_bodies))) b_picture_of_0) (.cons (.ret [2] (.call F_text_of_rows (.cons (.lc false [6] (.of (.var 2)) (.name 6) .none (.bm false .join (.cst (.str [])) (.cons (.var 6) .nil))) .nil))) .nil)))
/-! 24: drawn(game, world); names 0=game 1=world -/
abbrev d_drawn : Ss := (.cons (.exp (.call F_check_world (.cons (.var 0) (.cons (.var 1) .nil)))) (.cons (.ret [] (.call F_picture_of (.cons (.var 0) (.cons (.var 1) .nil)))) .nil))
/-! 25: changes_between(one, other); names 0=one 1=other 2=found 3=row 4=old 5=new 6=place 7=sign -/
abbrev b_changes_between_2 : Ss := (.cons (.exp (.bm false .append (.var 2) (.cons (.tup (.cons (.var 3) (.cons (.var 6) (.cons (.var 7) .nil)))) .nil))) .nil)
abbrev b_changes_between_1 : Ss := (.cons (.ife (.val (.cmp .ne (.var 7) (.idx (.var 4) (.var 6)))) b_changes_between_2 .nil) .nil)
abbrev b_changes_between_0 : Ss := (.cons (.forr (.tup (.cons (.name 6) (.cons (.name 7) .nil))) (.enum (.of (.var 5))) b_changes_between_1) .nil)
abbrev d_changes_between : Ss := (.cons (.set (.name 2) (.lst true .nil)) (.cons (.forr (.tup (.cons (.name 3) (.cons (.tup (.cons (.name 4) (.cons (.name 5) .nil))) .nil))) (.enum (.zip (.call F_rows_of (.cons (.var 0) .nil)) (.call F_rows_of (.cons (.var 1) .nil)))) b_changes_between_0) (.cons (.ret [2] (.bi false .tuple (.cons (.var 2) .nil))) .nil)))
/-! 26: body_line(body); names 0=body 1=part -/
abbrev d_body_line : Ss := (.cons (.ret [] (.bm false .join (.glb K_BLANK) (.cons (.lc false [1] (.of (.bin false .add (.sl false (.var 0) .none (.some (.cst (.int 7)))) (.idx (.var 0) (.cst (.int 7))))) (.name 1) .none (.bi false .str (.cons (.var 1) .nil))) .nil))) .nil)
/-! 27: lines_of_bodies(world); names 0=world 1=body -/
abbrev d_lines_of_bodies : Ss := (.cons (.ret [] (.call F_text_of_rows (.cons (.lc false [1] (.of (.fld (.var 0) N_bodies)) (.name 1) .none (.call F_body_line (.cons (.var 1) .nil))) .nil))) .nil)
/-! 28: body_lines(game, world); names 0=game 1=world -/
abbrev d_body_lines : Ss := (.cons (.exp (.call F_check_world (.cons (.var 0) (.cons (.var 1) .nil)))) (.cons (.ret [] (.call F_lines_of_bodies (.cons (.var 1) .nil))) .nil))
/-! 29: _law_hand(script); names 0=script -/
abbrev d_law_hand : Ss := (.cons (.ret [] (.lst true (.cons (.bi false .list (.cons (.var 0) .nil)) (.cons (.cst (.int 0)) (.cons (.cst (.int 0)) (.cons (.cst (.int 1)) (.cons (.cst (.int 0)) .nil))))))) .nil)
/-! 30: _law_take(hand, many); names 0=hand 1=many 2=number 3=cell 4=found -/
abbrev b_law_take_1 : Ss := (.cons (.set (.idx (.var 0) (.cst (.int 2))) (.var 3)) .nil)
abbrev b_law_take_2 : Ss := (.cons (.set (.idx (.var 0) (.cst (.int 3))) (.bin false .mod (.bi false .int (.cons (.bin false .add (.bin false .add (.bin false .mul (.idx (.var 0) (.cst (.int 3))) (.cst (.int 48271))) (.bin false .mod (.bi false .int (.cons (.var 3) .nil)) (.cst (.int 2147483647)))) (.cst (.int 1))) .nil)) (.cst (.int 2147483647)))) .nil)
abbrev b_law_take_0 : Ss := (.cons (.set (.name 3) (.bi false .int (.cons (.idx (.idx (.var 0) (.cst (.int 0))) (.idx (.var 0) (.cst (.int 1)))) .nil))) (.cons (.set (.idx (.var 0) (.cst (.int 1))) (.bin false .add (.idx (.var 0) (.cst (.int 1))) (.cst (.int 1)))) (.cons (.ife (.val (.cmp .ge (.var 3) (.bin false .pow (.cst (.int 10)) (.cst (.int 18))))) b_law_take_1 b_law_take_2) .nil)))
abbrev b_law_take_3 : Ss := (.cons (.set (.name 4) (.bin false .mod (.bi false .int (.cons (.idx (.var 0) (.cst (.int 2))) .nil)) (.var 1))) (.cons (.set (.idx (.var 0) (.cst (.int 2))) (.bin false .fdiv (.bi false .int (.cons (.idx (.var 0) (.cst (.int 2))) .nil)) (.var 1))) (.cons (.ret [] (.var 4)) .nil)))
abbrev d_law_take : Ss := (.cons (.set (.idx (.var 0) (.cst (.int 4))) (.bin false .add (.idx (.var 0) (.cst (.int 4))) (.cst (.int 1)))) (.cons (.ife (.and (.val (.cmp .eq (.idx (.var 0) (.cst (.int 2))) (.cst (.int 0)))) (.val (.cmp .lt (.idx (.var 0) (.cst (.int 1))) (.bi false .len (.cons (.idx (.var 0) (.cst (.int 0))) .nil))))) b_law_take_0 .nil) (.cons (.ife (.val (.cmp .gt (.idx (.var 0) (.cst (.int 2))) (.cst (.int 0)))) b_law_take_3 .nil) (.cons (.set (.idx (.var 0) (.cst (.int 3))) (.bin false .mod (.bi false .int (.cons (.bin false .add (.bin false .mul (.idx (.var 0) (.cst (.int 3))) (.cst (.int 69621))) (.bin false .mul (.cst (.int 7919)) (.idx (.var 0) (.cst (.int 4))))) .nil)) (.cst (.int 2147483647)))) (.cons (.set (.name 2) (.bin false .mod (.bi false .int (.cons (.bin false .mul (.idx (.var 0) (.cst (.int 3))) (.bin false .add (.bin false .fdiv (.idx (.var 0) (.cst (.int 3))) (.cst (.int 1009))) (.cst (.int 69621)))) .nil)) (.cst (.int 2147483647)))) (.cons (.set (.name 2) (.bin false .mod (.bi false .int (.cons (.bin false .mul (.var 2) (.bin false .add (.bin false .fdiv (.var 2) (.cst (.int 2003))) (.cst (.int 40692)))) .nil)) (.cst (.int 2147483399)))) (.cons (.ret [] (.bin false .mod (.bi false .int (.cons (.bin false .fdiv (.var 2) (.cst (.int 16))) .nil)) (.var 1))) .nil)))))))
/-! 31: _law_pick(hand, things); names 0=hand 1=things -/
abbrev d_law_pick : Ss := (.cons (.ret [] (.idx (.var 1) (.call F_law_take (.cons (.var 0) (.cons (.bi false .len (.cons (.var 1) .nil)) .nil))))) .nil)
/-! 32: _law_wide(hand); names 0=hand -/
abbrev d_law_wide : Ss := (.cons (.ret [] (.bin false .sub (.bin false .add (.bin false .mul (.call F_law_take (.cons (.var 0) (.cons (.cst (.int 65536)) .nil))) (.cst (.int 65536))) (.call F_law_take (.cons (.var 0) (.cons (.cst (.int 65536)) .nil)))) (.cst (.int 2147483648)))) .nil)
/-! 33: _law_small(hand); names 0=hand 1=way -/
abbrev b_law_small_0 : Ss := (.cons (.ret [] (.call F_law_wide (.cons (.var 0) .nil))) .nil)
abbrev b_law_small_1 : Ss := (.cons (.ret [] (.call F_law_pick (.cons (.var 0) (.cons (.lst false (.cons (.cst (.int 2147483647)) (.cons (.neg (.cst (.int 2147483648))) (.cons (.cst (.int 2147483646)) (.cons (.neg (.cst (.int 2147483647))) (.cons (.cst (.int 65535)) (.cons (.cst (.int 65536)) (.cons (.cst (.int 255)) (.cons (.cst (.int 256)) (.cons (.neg (.cst (.int 17))) .nil)))))))))) .nil)))) .nil)
abbrev b_law_small_2 : Ss := (.cons (.ret [] (.bin false .sub (.call F_law_take (.cons (.var 0) (.cons (.cst (.int 5)) .nil))) (.cst (.int 2)))) .nil)
abbrev d_law_small : Ss := (.cons (.set (.name 1) (.call F_law_take (.cons (.var 0) (.cons (.cst (.int 8)) .nil)))) (.cons (.ife (.val (.cmp .eq (.var 1) (.cst (.int 0)))) b_law_small_0 .nil) (.cons (.ife (.val (.cmp .eq (.var 1) (.cst (.int 1)))) b_law_small_1 .nil) (.cons (.ife (.val (.cmp .lt (.var 1) (.cst (.int 4)))) b_law_small_2 .nil) (.cons (.ret [] (.bin false .sub (.call F_law_take (.cons (.var 0) (.cons (.cst (.int 60)) .nil))) (.cst (.int 12)))) .nil)))))
/-! 34: _law_seed(hand); names 0=hand -/
abbrev b_law_seed_0 : Ss := (.cons (.ret [] (.call F_law_pick (.cons (.var 0) (.cons (.lst false (.cons (.cst (.int 1)) (.cons (.cst (.int 2147483646)) (.cons (.cst (.int 2)) (.cons (.cst (.int 2147483645)) (.cons (.cst (.int 48271)) .nil)))))) .nil)))) .nil)
abbrev d_law_seed : Ss := (.cons (.ife (.val (.cmp .eq (.call F_law_take (.cons (.var 0) (.cons (.cst (.int 6)) .nil))) (.cst (.int 0)))) b_law_seed_0 .nil) (.cons (.ret [] (.bin false .add (.cst (.int 1)) (.bin false .mod (.bi false .int (.cons (.bin false .add (.bin false .mul (.call F_law_take (.cons (.var 0) (.cons (.cst (.int 65536)) .nil))) (.cst (.int 32768))) (.call F_law_take (.cons (.var 0) (.cons (.cst (.int 32768)) .nil)))) .nil)) (.cst (.int 2147483646))))) .nil))
/-! 35: _law_is_integer(thing); names 0=thing -/
abbrev d_law_is_integer : Ss := (.cons (.ret [] (.and (.bi false (.isi [.int]) (.cons (.var 0) .nil)) (.not (.bi false (.isi [.bool]) (.cons (.var 0) .nil))))) .nil)
/-! 36: _law_same(actual, due); names 0=actual 1=due 2=one 3=other -/
abbrev b_law_same_0 : Ss := (.cons (.ret [] (.isN (.var 0))) .nil)
abbrev b_law_same_1 : Ss := (.cons (.ret [] (.isB (.var 0) true)) .nil)
abbrev b_law_same_2 : Ss := (.cons (.ret [] (.isB (.var 0) false)) .nil)
abbrev b_law_same_3 : Ss := (.cons (.ret [] (.and (.call F_law_is_integer (.cons (.var 0) .nil)) (.cmp .eq (.var 0) (.var 1)))) .nil)
abbrev b_law_same_4 : Ss := (.cons (.ret [] (.and (.bi false (.isi [.str]) (.cons (.var 0) .nil)) (.cmp .eq (.var 0) (.var 1)))) .nil)
abbrev b_law_same_5 : Ss := (.cons (.ret [] (.cst (.bl false))) .nil)
abbrev b_law_same_6 : Ss := (.cons (.ret [] (.cst (.bl false))) .nil)
abbrev b_law_same_8 : Ss := (.cons (.ret [] (.cst (.bl false))) .nil)
abbrev b_law_same_7 : Ss := (.cons (.ife (.not (.val (.call F_law_same (.cons (.var 2) (.cons (.var 3) .nil))))) b_law_same_8 .nil) .nil)
abbrev d_law_same : Ss := (.cons (.ife (.val (.isN (.var 1))) b_law_same_0 .nil) (.cons (.ife (.val (.isB (.var 1) true)) b_law_same_1 .nil) (.cons (.ife (.val (.isB (.var 1) false)) b_law_same_2 .nil) (.cons (.ife (.val (.bi false (.isi [.int]) (.cons (.var 1) .nil))) b_law_same_3 .nil) (.cons (.ife (.val (.bi false (.isi [.str]) (.cons (.var 1) .nil))) b_law_same_4 .nil) (.cons (.ife (.or (.val (.cmp .ne (.bi false (.isi [.tup]) (.cons (.var 1) .nil)) (.bi false (.isi [.tup]) (.cons (.var 0) .nil)))) (.val (.cmp .ne (.bi false (.isi [.lst]) (.cons (.var 1) .nil)) (.bi false (.isi [.lst]) (.cons (.var 0) .nil))))) b_law_same_5 .nil) (.cons (.ife (.val (.cmp .ne (.bi false .len (.cons (.var 0) .nil)) (.bi false .len (.cons (.var 1) .nil)))) b_law_same_6 .nil) (.cons (.forr (.tup (.cons (.name 2) (.cons (.name 3) .nil))) (.zip (.var 0) (.var 1)) b_law_same_7) (.cons (.ret [] (.cst (.bl true))) .nil)))))))))
/-! 37: _law_odd(hand); names 0=hand 1=way -/
abbrev b_law_odd_0 : Ss := (.cons (.ret [] (.idx (.lst false (.cons (.cst .non) (.cons (.cst (.bl true)) (.cons (.cst (.bl false)) (.cons (.cst (.str [])) (.cons (.cst (.str [97])) (.cons (.cst (.str [48])) .nil))))))) (.var 1))) .nil)
abbrev b_law_odd_1 : Ss := (.cons (.ret [] (.idx (.lst false (.cons (.tup .nil) (.cons (.lst false .nil) (.cons (.dct false .nil .nil) (.cons (.tup (.cons (.cst (.int 1)) .nil)) (.cons (.lst false (.cons (.cst (.int 0)) .nil)) (.cons (.tup (.cons (.tup .nil) .nil)) .nil))))))) (.bin false .sub (.var 1) (.cst (.int 6))))) .nil)
abbrev b_law_odd_2 : Ss := (.cons (.ret [] (.idx (.lst false (.cons (.neg (.cst (.int 1))) (.cons (.cst (.int 2147483648)) (.cons (.neg (.cst (.int 2147483649))) (.cons (.bin false .sub (.bin false .pow (.cst (.int 10)) (.cst (.int 20))) (.cst (.int 1))) (.cons (.bin false .sub (.cst (.int 1)) (.bin false .pow (.cst (.int 10)) (.cst (.int 20)))) (.cons (.cst (.int 300)) .nil))))))) (.bin false .sub (.var 1) (.cst (.int 12))))) .nil)
abbrev b_law_odd_3 : Ss := (.cons (.ret [] (.lst false (.cons (.bin false .mul (.cst (.str [46])) (.cst (.int 3))) (.cons (.tup (.cons (.cst .non) (.cons (.cst (.int 0)) .nil))) .nil)))) .nil)
abbrev d_law_odd : Ss := (.cons (.set (.name 1) (.call F_law_take (.cons (.var 0) (.cons (.cst (.int 20)) .nil)))) (.cons (.ife (.val (.cmp .lt (.var 1) (.cst (.int 6)))) b_law_odd_0 .nil) (.cons (.ife (.val (.cmp .lt (.var 1) (.cst (.int 12)))) b_law_odd_1 .nil) (.cons (.ife (.val (.cmp .lt (.var 1) (.cst (.int 18)))) b_law_odd_2 .nil) (.cons (.ife (.val (.cmp .eq (.var 1) (.cst (.int 18)))) b_law_odd_3 .nil) (.cons (.ret [] (.dct false (.cons (.cst (.str [116, 105, 99, 107])) .nil) (.cons (.tup .nil) .nil))) .nil))))))
/-! 38: _law_ground_sign(hand, full); names 0=hand 1=full 2=way -/
abbrev b_law_ground_sign_0 : Ss := (.cons (.ret [] (.cst (.str [35]))) .nil)
abbrev b_law_ground_sign_1 : Ss := (.cons (.ret [] (.idx (.cst (.str [48, 49, 50, 51, 52, 53, 54, 55, 56, 57])) (.call F_law_take (.cons (.var 0) (.cons (.cst (.int 10)) .nil))))) .nil)
abbrev d_law_ground_sign : Ss := (.cons (.set (.name 2) (.call F_law_take (.cons (.var 0) (.cons (.cst (.int 12)) .nil)))) (.cons (.ife (.val (.cmp .lt (.var 2) (.var 1))) b_law_ground_sign_0 .nil) (.cons (.ife (.val (.cmp .eq (.var 2) (.cst (.int 11)))) b_law_ground_sign_1 .nil) (.cons (.ret [] (.cst (.str [46]))) .nil))))
/-! 39: _law_rows(hand, wide, high); names 0=hand 1=wide 2=high 3=full 4=found 5=k 6=j -/
abbrev b_law_rows_0 : Ss := (.cons (.exp (.bm false .append (.var 4) (.cons (.bm false .join (.cst (.str [])) (.cons (.lc false [6] (.rng1 (.var 1)) (.name 6) .none (.call F_law_ground_sign (.cons (.var 0) (.cons (.var 3) .nil)))) .nil)) .nil))) .nil)
abbrev d_law_rows : Ss := (.cons (.set (.name 3) (.call F_law_take (.cons (.var 0) (.cons (.cst (.int 4)) .nil)))) (.cons (.set (.name 4) (.lst true .nil)) (.cons (.forr (.name 5) (.rng1 (.var 2)) b_law_rows_0) (.cons (.ret [4] (.bi false .tuple (.cons (.var 4) .nil))) .nil))))
/-! 40: _law_ground(hand); names 0=hand 1=way -/
abbrev b_law_ground_0 : Ss := (.cons (.ret [] (.call F_law_rows (.cons (.var 0) (.cons (.bin false .add (.cst (.int 1)) (.call F_law_take (.cons (.var 0) (.cons (.cst (.int 12)) .nil)))) (.cons (.bin false .add (.cst (.int 1)) (.call F_law_take (.cons (.var 0) (.cons (.cst (.int 8)) .nil)))) .nil))))) .nil)
abbrev b_law_ground_1 : Ss := (.cons (.ret [] (.call F_law_rows (.cons (.var 0) (.cons (.cst (.int 1)) (.cons (.cst (.int 1)) .nil))))) .nil)
abbrev d_law_ground : Ss := (.cons (.set (.name 1) (.call F_law_take (.cons (.var 0) (.cons (.cst (.int 9)) .nil)))) (.cons (.ife (.val (.cmp .eq (.var 1) (.cst (.int 0)))) b_law_ground_0 .nil) (.cons (.ife (.val (.cmp .eq (.var 1) (.cst (.int 1)))) b_law_ground_1 .nil) (.cons (.ret [] (.call F_law_rows (.cons (.var 0) (.cons (.bin false .add (.cst (.int 2)) (.call F_law_take (.cons (.var 0) (.cons (.cst (.int 5)) .nil)))) (.cons (.bin false .add (.cst (.int 2)) (.call F_law_take (.cons (.var 0) (.cons (.cst (.int 4)) .nil)))) .nil))))) .nil))))
/-! 41: _law_sign(rows, x, y); names 0=rows 1=x 2=y -/
abbrev b_law_sign_0 : Ss := (.cons (.ret [] (.cst (.str [35]))) .nil)
abbrev d_law_sign : Ss := (.cons (.ife (.or (.val (.cmp .lt (.var 1) (.cst (.int 0)))) (.or (.val (.cmp .lt (.var 2) (.cst (.int 0)))) (.or (.val (.cmp .ge (.var 1) (.bin false .mul (.cst (.int 8)) (.bi false .len (.cons (.idx (.var 0) (.cst (.int 0))) .nil))))) (.val (.cmp .ge (.var 2) (.bin false .mul (.cst (.int 8)) (.bi false .len (.cons (.var 0) .nil)))))))) b_law_sign_0 .nil) (.cons (.ret [] (.idx (.idx (.var 0) (.bin false .fdiv (.var 2) (.cst (.int 8)))) (.bin false .fdiv (.var 1) (.cst (.int 8))))) .nil))
/-! 42: _law_spots(begin, length); names 0=begin 1=length 2=k -/
abbrev d_law_spots : Ss := (.cons (.ret [] (.bin false .add (.lc false [2] (.rng1 (.bin false .fdiv (.bin false .add (.var 1) (.cst (.int 7))) (.cst (.int 8)))) (.name 2) .none (.bin false .add (.var 0) (.bin false .mul (.cst (.int 8)) (.var 2)))) (.lst false (.cons (.bin false .sub (.bin false .add (.var 0) (.var 1)) (.cst (.int 1))) .nil)))) .nil)
/-! 43: _law_open(rows, x, y, wide, high); names 0=rows 1=x 2=y 3=wide 4=high 5=down 6=across -/
abbrev b_law_open_2 : Ss := (.cons (.ret [] (.cst (.bl false))) .nil)
abbrev b_law_open_1 : Ss := (.cons (.ife (.val (.cmp .eq (.call F_law_sign (.cons (.var 0) (.cons (.var 6) (.cons (.var 5) .nil)))) (.cst (.str [35])))) b_law_open_2 .nil) .nil)
abbrev b_law_open_0 : Ss := (.cons (.forr (.name 6) (.of (.call F_law_spots (.cons (.var 1) (.cons (.var 3) .nil)))) b_law_open_1) .nil)
abbrev d_law_open : Ss := (.cons (.forr (.name 5) (.of (.call F_law_spots (.cons (.var 2) (.cons (.var 4) .nil)))) b_law_open_0) (.cons (.ret [] (.cst (.bl true))) .nil))
/-! 44: _law_common(kinds, one, other); names 0=kinds 1=one 2=other 3=wide 4=high -/
abbrev d_law_common : Ss := (.cons (.set (.name 3) (.bin false .sub (.bi false .min2 (.cons (.bin false .add (.idx (.var 1) (.cst (.int 1))) (.idx (.idx (.var 0) (.idx (.var 1) (.cst (.int 0)))) (.cst (.int 0)))) (.cons (.bin false .add (.idx (.var 2) (.cst (.int 1))) (.idx (.idx (.var 0) (.idx (.var 2) (.cst (.int 0)))) (.cst (.int 0)))) .nil))) (.bi false .max2 (.cons (.idx (.var 1) (.cst (.int 1))) (.cons (.idx (.var 2) (.cst (.int 1))) .nil))))) (.cons (.set (.name 4) (.bin false .sub (.bi false .min2 (.cons (.bin false .add (.idx (.var 1) (.cst (.int 2))) (.idx (.idx (.var 0) (.idx (.var 1) (.cst (.int 0)))) (.cst (.int 1)))) (.cons (.bin false .add (.idx (.var 2) (.cst (.int 2))) (.idx (.idx (.var 0) (.idx (.var 2) (.cst (.int 0)))) (.cst (.int 1)))) .nil))) (.bi false .max2 (.cons (.idx (.var 1) (.cst (.int 2))) (.cons (.idx (.var 2) (.cst (.int 2))) .nil))))) (.cons (.ret [] (.and (.cmp .gt (.var 3) (.cst (.int 0))) (.cmp .gt (.var 4) (.cst (.int 0))))) .nil)))
/-! 45: _law_clear(rows, kinds, kind, x, y, placed); names 0=rows 1=kinds 2=kind 3=x 4=y 5=placed 6=other -/
abbrev b_law_clear_0 : Ss := (.cons (.ret [] (.cst (.bl false))) .nil)
abbrev b_law_clear_1 : Ss := (.cons (.ret [] (.cst (.bl true))) .nil)
abbrev b_law_clear_3 : Ss := (.cons (.ret [] (.cst (.bl false))) .nil)
abbrev b_law_clear_2 : Ss := (.cons (.ife (.and (.val (.idx (.idx (.var 1) (.idx (.var 6) (.cst (.int 0)))) (.cst (.int 2)))) (.val (.call F_law_common (.cons (.var 1) (.cons (.tup (.cons (.var 2) (.cons (.var 3) (.cons (.var 4) .nil)))) (.cons (.var 6) .nil)))))) b_law_clear_3 .nil) .nil)
abbrev d_law_clear : Ss := (.cons (.ife (.not (.val (.call F_law_open (.cons (.var 0) (.cons (.var 3) (.cons (.var 4) (.cons (.idx (.idx (.var 1) (.var 2)) (.cst (.int 0))) (.cons (.idx (.idx (.var 1) (.var 2)) (.cst (.int 1))) .nil)))))))) b_law_clear_0 .nil) (.cons (.ife (.not (.val (.idx (.idx (.var 1) (.var 2)) (.cst (.int 2))))) b_law_clear_1 .nil) (.cons (.forr (.name 6) (.of (.var 5)) b_law_clear_2) (.cons (.ret [] (.cst (.bl true))) .nil))))
/-! 46: _law_kind(hand); names 0=hand 1=solid 2=wide 3=high -/
abbrev b_law_kind_0 : Ss := (.cons (.set (.name 2) (.bin false .add (.cst (.int 1)) (.call F_law_take (.cons (.var 0) (.cons (.cst (.int 32)) .nil))))) (.cons (.set (.name 3) (.bin false .add (.cst (.int 1)) (.call F_law_take (.cons (.var 0) (.cons (.cst (.int 32)) .nil))))) .nil))
abbrev b_law_kind_1 : Ss := (.cons (.set (.name 2) (.bin false .add (.cst (.int 1)) (.call F_law_take (.cons (.var 0) (.cons (.cst (.int 10)) .nil))))) (.cons (.set (.name 3) (.bin false .add (.cst (.int 1)) (.call F_law_take (.cons (.var 0) (.cons (.cst (.int 10)) .nil))))) .nil))
abbrev d_law_kind : Ss := (.cons (.ife (.val (.cmp .eq (.call F_law_take (.cons (.var 0) (.cons (.cst (.int 6)) .nil))) (.cst (.int 0)))) b_law_kind_0 b_law_kind_1) (.cons (.set (.name 1) (.cmp .gt (.call F_law_take (.cons (.var 0) (.cons (.cst (.int 4)) .nil))) (.cst (.int 0)))) (.cons (.ret [] (.tup (.cons (.var 2) (.cons (.var 3) (.cons (.var 1) (.cons (.call F_law_pick (.cons (.var 0) (.cons (.lst false (.cons (.cst (.int 0)) (.cons (.cst (.int 0)) (.cons (.cst (.int 1)) (.cons (.cst (.int 2)) (.cons (.cst (.int 3)) (.cons (.cst (.int 4)) (.cons (.neg (.cst (.int 1))) (.cons (.neg (.cst (.int 2))) (.cons (.neg (.cst (.int 3))) (.cons (.neg (.cst (.int 4))) .nil))))))))))) .nil))) (.cons (.cst .non) .nil))))))) .nil)))
/-! 47: _law_kinds(hand); names 0=hand 1=many 2=k -/
abbrev d_law_kinds : Ss := (.cons (.set (.name 1) (.call F_law_pick (.cons (.var 0) (.cons (.lst false (.cons (.cst (.int 1)) (.cons (.cst (.int 2)) (.cons (.cst (.int 2)) (.cons (.cst (.int 3)) (.cons (.cst (.int 3)) (.cons (.cst (.int 8)) .nil))))))) .nil)))) (.cons (.ret [] (.lc false [2] (.rng1 (.var 1)) (.name 2) .none (.call F_law_kind (.cons (.var 0) .nil)))) .nil))
/-! 48: _law_place(hand, rows, kinds, kind, placed); names 0=hand 1=rows 2=kinds 3=kind 4=placed 5=way 6=gap 7=other 8=left 9=top -/
abbrev b_law_place_1 : Ss := (.cons (.ret [] (.tup (.cons (.bin false .add (.bin false .add (.var 8) (.idx (.idx (.var 2) (.var 7)) (.cst (.int 0)))) (.var 6)) (.cons (.bin false .sub (.bin false .add (.var 9) (.call F_law_take (.cons (.var 0) (.cons (.cst (.int 5)) .nil)))) (.cst (.int 2))) .nil)))) .nil)
abbrev b_law_place_2 : Ss := (.cons (.ret [] (.tup (.cons (.bin false .sub (.bin false .sub (.var 8) (.idx (.idx (.var 2) (.var 3)) (.cst (.int 0)))) (.var 6)) (.cons (.bin false .sub (.bin false .add (.var 9) (.call F_law_take (.cons (.var 0) (.cons (.cst (.int 5)) .nil)))) (.cst (.int 2))) .nil)))) .nil)
abbrev b_law_place_3 : Ss := (.cons (.ret [] (.tup (.cons (.bin false .sub (.bin false .add (.var 8) (.call F_law_take (.cons (.var 0) (.cons (.cst (.int 5)) .nil)))) (.cst (.int 2))) (.cons (.bin false .add (.bin false .add (.var 9) (.idx (.idx (.var 2) (.var 7)) (.cst (.int 1)))) (.var 6)) .nil)))) .nil)
abbrev b_law_place_0 : Ss := (.cons (.set (.tup (.cons (.name 7) (.cons (.name 8) (.cons (.name 9) .nil)))) (.call F_law_pick (.cons (.var 0) (.cons (.var 4) .nil)))) (.cons (.set (.name 5) (.call F_law_take (.cons (.var 0) (.cons (.cst (.int 4)) .nil)))) (.cons (.set (.name 6) (.call F_law_take (.cons (.var 0) (.cons (.cst (.int 3)) .nil)))) (.cons (.ife (.val (.cmp .eq (.var 5) (.cst (.int 0)))) b_law_place_1 .nil) (.cons (.ife (.val (.cmp .eq (.var 5) (.cst (.int 1)))) b_law_place_2 .nil) (.cons (.ife (.val (.cmp .eq (.var 5) (.cst (.int 2)))) b_law_place_3 .nil) (.cons (.ret [] (.tup (.cons (.bin false .sub (.bin false .add (.var 8) (.call F_law_take (.cons (.var 0) (.cons (.cst (.int 5)) .nil)))) (.cst (.int 2))) (.cons (.bin false .sub (.bin false .sub (.var 9) (.idx (.idx (.var 2) (.var 3)) (.cst (.int 1)))) (.var 6)) .nil)))) .nil)))))))
abbrev d_law_place : Ss := (.cons (.ife (.and (.val (.cmp .gt (.bi false .len (.cons (.var 4) .nil)) (.cst (.int 0)))) (.val (.cmp .eq (.call F_law_take (.cons (.var 0) (.cons (.cst (.int 3)) .nil))) (.cst (.int 0))))) b_law_place_0 .nil) (.cons (.ret [] (.tup (.cons (.call F_law_take (.cons (.var 0) (.cons (.bin false .mul (.cst (.int 8)) (.bi false .len (.cons (.idx (.var 1) (.cst (.int 0))) .nil))) .nil))) (.cons (.call F_law_take (.cons (.var 0) (.cons (.bin false .mul (.cst (.int 8)) (.bi false .len (.cons (.var 1) .nil))) .nil))) .nil)))) .nil))
/-! 49: _law_placed(hand, rows, kinds, many); names 0=hand 1=rows 2=kinds 3=many 4=found 5=k 6=kind 7=times 8=x 9=y -/
abbrev b_law_placed_2 : Ss := (.cons (.exp (.bm false .append (.var 4) (.cons (.tup (.cons (.var 6) (.cons (.var 8) (.cons (.var 9) .nil)))) .nil))) (.cons .brk .nil))
abbrev b_law_placed_1 : Ss := (.cons (.set (.tup (.cons (.name 8) (.cons (.name 9) .nil))) (.call F_law_place (.cons (.var 0) (.cons (.var 1) (.cons (.var 2) (.cons (.var 6) (.cons (.var 4) .nil))))))) (.cons (.ife (.val (.call F_law_clear (.cons (.var 1) (.cons (.var 2) (.cons (.var 6) (.cons (.var 8) (.cons (.var 9) (.cons (.var 4) .nil)))))))) b_law_placed_2 .nil) .nil))
abbrev b_law_placed_0 : Ss := (.cons (.set (.name 6) (.call F_law_take (.cons (.var 0) (.cons (.bi false .len (.cons (.var 2) .nil)) .nil)))) (.cons (.forr (.name 7) (.rng1 (.cst (.int 4))) b_law_placed_1) .nil))
abbrev d_law_placed : Ss := (.cons (.set (.name 4) (.lst true .nil)) (.cons (.forr (.name 5) (.rng1 (.var 3)) b_law_placed_0) (.cons (.ret [] (.frz (.var 4))) .nil)))
/-! 50: _law_speed(hand); names 0=hand 1=way -/
abbrev b_law_speed_0 : Ss := (.cons (.ret [] (.cst (.int 0))) .nil)
abbrev b_law_speed_1 : Ss := (.cons (.ret [] (.bin false .sub (.cst (.int 16)) (.bin false .mul (.cst (.int 32)) (.call F_law_take (.cons (.var 0) (.cons (.cst (.int 2)) .nil)))))) .nil)
abbrev d_law_speed : Ss := (.cons (.set (.name 1) (.call F_law_take (.cons (.var 0) (.cons (.cst (.int 5)) .nil)))) (.cons (.ife (.val (.cmp .eq (.var 1) (.cst (.int 0)))) b_law_speed_0 .nil) (.cons (.ife (.val (.cmp .eq (.var 1) (.cst (.int 1)))) b_law_speed_1 .nil) (.cons (.ret [] (.bin false .sub (.call F_law_take (.cons (.var 0) (.cons (.cst (.int 33)) .nil))) (.cst (.int 16)))) .nil))))
/-! 51: _law_bodies(hand, rows, kinds, players, many); names 0=hand 1=rows 2=kinds 3=players 4=many 5=found 6=number 7=kind 8=x 9=y 10=dx 11=dy 12=owner 13=cells 14=k -/
abbrev b_law_bodies_0 : Ss := (.cons (.set (.name 10) (.call F_law_speed (.cons (.var 0) .nil))) (.cons (.set (.name 11) (.call F_law_speed (.cons (.var 0) .nil))) (.cons (.set (.name 12) (.bin false .sub (.call F_law_take (.cons (.var 0) (.cons (.bin false .add (.var 3) (.cst (.int 1))) .nil))) (.cst (.int 1)))) (.cons (.set (.name 13) (.bi false .tuple (.cons (.lc false [14] (.rng1 (.cst (.int 4))) (.name 14) .none (.call F_law_small (.cons (.var 0) .nil))) .nil))) (.cons (.exp (.bm false .append (.var 5) (.cons (.tup (.cons (.var 6) (.cons (.var 7) (.cons (.var 8) (.cons (.var 9) (.cons (.var 10) (.cons (.var 11) (.cons (.var 12) (.cons (.var 13) .nil))))))))) .nil))) (.cons (.set (.name 6) (.bin false .add (.bin false .add (.var 6) (.cst (.int 1))) (.bin false .mul (.bin false .fdiv (.call F_law_take (.cons (.var 0) (.cons (.cst (.int 8)) .nil))) (.cst (.int 6))) (.call F_law_take (.cons (.var 0) (.cons (.cst (.int 5)) .nil)))))) .nil))))))
abbrev d_law_bodies : Ss := (.cons (.set (.name 5) (.lst true .nil)) (.cons (.set (.name 6) (.call F_law_take (.cons (.var 0) (.cons (.cst (.int 3)) .nil)))) (.cons (.forr (.tup (.cons (.name 7) (.cons (.name 8) (.cons (.name 9) .nil)))) (.of (.call F_law_placed (.cons (.var 0) (.cons (.var 1) (.cons (.var 2) (.cons (.var 4) .nil)))))) b_law_bodies_0) (.cons (.ret [5] (.bi false .tuple (.cons (.var 5) .nil))) .nil))))
/-! 52: _law_count_of(hand, bodies); names 0=hand 1=bodies 2=least -/
abbrev b_law_count_of_0 : Ss := (.cons (.set (.name 2) (.bin false .add (.idx (.idx (.var 1) (.neg (.cst (.int 1)))) (.cst (.int 0))) (.cst (.int 1)))) .nil)
abbrev d_law_count_of : Ss := (.cons (.set (.name 2) (.cst (.int 0))) (.cons (.ife (.val (.cmp .gt (.bi false .len (.cons (.var 1) .nil)) (.cst (.int 0)))) b_law_count_of_0 .nil) (.cons (.ret [] (.bin false .add (.var 2) (.call F_law_take (.cons (.var 0) (.cons (.cst (.int 3)) .nil))))) .nil)))
/-! 53: _law_tick(hand); names 0=hand -/
abbrev b_law_tick_0 : Ss := (.cons (.ret [] (.call F_law_pick (.cons (.var 0) (.cons (.lst false (.cons (.bin false .pow (.cst (.int 10)) (.cst (.int 9))) (.cons (.bin false .sub (.bin false .pow (.cst (.int 10)) (.cst (.int 9))) (.cst (.int 1))) (.cons (.bin false .pow (.cst (.int 2)) (.cst (.int 16))) (.cons (.cst (.int 1)) .nil))))) .nil)))) .nil)
abbrev d_law_tick : Ss := (.cons (.ife (.val (.cmp .eq (.call F_law_take (.cons (.var 0) (.cons (.cst (.int 5)) .nil))) (.cst (.int 0)))) b_law_tick_0 .nil) (.cons (.ret [] (.call F_law_take (.cons (.var 0) (.cons (.cst (.int 40)) .nil)))) .nil))
/-! 54: _law_said(hand); names 0=hand 1=k -/
abbrev d_law_said : Ss := (.cons (.ret [] (.bi false .tuple (.cons (.lc false [1] (.rng1 (.call F_law_pick (.cons (.var 0) (.cons (.lst false (.cons (.cst (.int 0)) (.cons (.cst (.int 0)) (.cons (.cst (.int 1)) (.cons (.cst (.int 2)) (.cons (.cst (.int 5)) (.cons (.cst (.int 64)) .nil))))))) .nil)))) (.name 1) .none (.call F_law_small (.cons (.var 0) .nil))) .nil))) .nil)
/-! 55: _law_parts(hand, rows, kinds, players, many); names 0=hand 1=rows 2=kinds 3=players 4=many 5=bodies 6=shared 7=tick 8=seed 9=count 10=k -/
abbrev d_law_parts : Ss := (.cons (.set (.name 5) (.call F_law_bodies (.cons (.var 0) (.cons (.var 1) (.cons (.var 2) (.cons (.var 3) (.cons (.var 4) .nil))))))) (.cons (.set (.name 6) (.bi false .tuple (.cons (.lc false [10] (.rng1 (.cst (.int 8))) (.name 10) .none (.call F_law_small (.cons (.var 0) .nil))) .nil))) (.cons (.set (.name 7) (.call F_law_tick (.cons (.var 0) .nil))) (.cons (.set (.name 8) (.call F_law_seed (.cons (.var 0) .nil))) (.cons (.set (.name 9) (.call F_law_count_of (.cons (.var 0) (.cons (.var 5) .nil)))) (.cons (.ret [] (.tup (.cons (.var 7) (.cons (.var 8) (.cons (.var 6) (.cons (.var 9) (.cons (.var 5) (.cons (.call F_law_said (.cons (.var 0) .nil)) .nil)))))))) .nil))))))
/-! 56: _law_world_of(parts); names 0=parts -/
abbrev d_law_world_of : Ss := (.cons (.ret [] (.make N_World true (.cons (.idx (.var 0) (.cst (.int 0))) (.cons (.idx (.var 0) (.cst (.int 1))) (.cons (.idx (.var 0) (.cst (.int 2))) (.cons (.idx (.var 0) (.cst (.int 3))) (.cons (.idx (.var 0) (.cst (.int 4))) (.cons (.idx (.var 0) (.cst (.int 5))) .nil)))))))) .nil)
/-! 57: _law_program_of(handlers); names 0=handlers -/
abbrev b_law_program_of_0 : Ss := (.cons (.ret [] (.cst .non)) .nil)
abbrev d_law_program_of : Ss := (.cons (.ife (.val (.isN (.var 0))) b_law_program_of_0 .nil) (.cons .never .nil))
/-! 58: _law_kind_of(kind); names 0=kind -/
abbrev d_law_kind_of : Ss := (.cons (.ret [] (.make N_Kind true (.cons (.idx (.var 0) (.cst (.int 0))) (.cons (.idx (.var 0) (.cst (.int 1))) (.cons (.idx (.var 0) (.cst (.int 2))) (.cons (.idx (.var 0) (.cst (.int 3))) (.cons (.call F_law_program_of (.cons (.idx (.var 0) (.cst (.int 4))) .nil)) .nil))))))) .nil)
/-! 59: _law_game_of(players, rows, kinds, births); names 0=players 1=rows 2=kinds 3=births 4=kind -/
abbrev d_law_game_of : Ss := (.cons (.ret [] (.make N_Game true (.cons (.var 0) (.cons (.make N_Ground true (.cons (.var 1) .nil)) (.cons (.bi false .tuple (.cons (.lc false [4] (.of (.var 2)) (.name 4) .none (.call F_law_kind_of (.cons (.var 4) .nil))) .nil)) (.cons (.bi false .tuple (.cons (.var 3) .nil)) .nil)))))) .nil)
/-! 60: _law_closed(lines); names 0=lines 1=line -/
abbrev d_law_closed : Ss := (.cons (.ret [] (.bm false .join (.cst (.str [])) (.cons (.lc false [1] (.of (.var 0)) (.name 1) .none (.bin false .add (.var 1) (.cst (.str [10])))) .nil))) .nil)
/-! 61: _law_shown_sign(kinds, bodies, row, place, sign); names 0=kinds 1=bodies 2=row 3=place 4=sign 5=body -/
abbrev b_law_shown_sign_3 : Ss := (.cons (.ret [] (.idx (.cst (.str [65, 66, 67, 68, 69, 70, 71, 72])) (.idx (.var 5) (.cst (.int 1))))) .nil)
abbrev b_law_shown_sign_2 : Ss := (.cons (.ife (.val (.cmp .ge (.idx (.var 5) (.cst (.int 6))) (.cst (.int 0)))) b_law_shown_sign_3 .nil) (.cons (.ret [] (.idx (.cst (.str [97, 98, 99, 100, 101, 102, 103, 104])) (.idx (.var 5) (.cst (.int 1))))) .nil))
abbrev b_law_shown_sign_1 : Ss := (.cons (.ife (.and (.val (.cmp .lt (.idx (.var 5) (.cst (.int 3))) (.bin false .add (.bin false .mul (.cst (.int 8)) (.var 2)) (.cst (.int 8))))) (.val (.cmp .lt (.bin false .mul (.cst (.int 8)) (.var 2)) (.bin false .add (.idx (.var 5) (.cst (.int 3))) (.idx (.idx (.var 0) (.idx (.var 5) (.cst (.int 1)))) (.cst (.int 1))))))) b_law_shown_sign_2 .nil) .nil)
abbrev b_law_shown_sign_0 : Ss := (.cons (.ife (.and (.val (.cmp .lt (.idx (.var 5) (.cst (.int 2))) (.bin false .add (.bin false .mul (.cst (.int 8)) (.var 3)) (.cst (.int 8))))) (.val (.cmp .lt (.bin false .mul (.cst (.int 8)) (.var 3)) (.bin false .add (.idx (.var 5) (.cst (.int 2))) (.idx (.idx (.var 0) (.idx (.var 5) (.cst (.int 1)))) (.cst (.int 0))))))) b_law_shown_sign_1 .nil) .nil)
abbrev d_law_shown_sign : Ss := (.cons (.forr (.name 5) (.of (.var 1)) b_law_shown_sign_0) (.cons (.ret [] (.var 4)) .nil))
/-! 62: _law_shown(rows, kinds, bodies); names 0=rows 1=kinds 2=bodies 3=found 4=row 5=place -/
abbrev b_law_shown_1 : Ss := (.cons (.set (.name 3) (.bin false .add (.var 3) (.call F_law_shown_sign (.cons (.var 1) (.cons (.var 2) (.cons (.var 4) (.cons (.var 5) (.cons (.idx (.idx (.var 0) (.var 4)) (.var 5)) .nil)))))))) .nil)
abbrev b_law_shown_0 : Ss := (.cons (.forr (.name 5) (.rng1 (.bi false .len (.cons (.idx (.var 0) (.cst (.int 0))) .nil))) b_law_shown_1) (.cons (.set (.name 3) (.bin false .add (.var 3) (.cst (.str [10])))) .nil))
abbrev d_law_shown : Ss := (.cons (.set (.name 3) (.cst (.str []))) (.cons (.forr (.name 4) (.rng1 (.bi false .len (.cons (.var 0) .nil))) b_law_shown_0) (.cons (.ret [] (.var 3)) .nil)))
/-! 63: _law_differences(one, other, wide); names 0=one 1=other 2=wide 3=found 4=at -/
abbrev b_law_differences_1 : Ss := (.cons (.exp (.bm false .append (.var 3) (.cons (.tup (.cons (.bin false .fdiv (.var 4) (.bin false .add (.var 2) (.cst (.int 1)))) (.cons (.bin false .mod (.bi false .int (.cons (.var 4) .nil)) (.bin false .add (.var 2) (.cst (.int 1)))) (.cons (.idx (.var 1) (.var 4)) .nil)))) .nil))) .nil)
abbrev b_law_differences_0 : Ss := (.cons (.ife (.val (.cmp .ne (.idx (.var 0) (.var 4)) (.idx (.var 1) (.var 4)))) b_law_differences_1 .nil) .nil)
abbrev d_law_differences : Ss := (.cons (.set (.name 3) (.lst true .nil)) (.cons (.forr (.name 4) (.rng1 (.bi false .len (.cons (.var 0) .nil))) b_law_differences_0) (.cons (.ret [3] (.bi false .tuple (.cons (.var 3) .nil))) .nil)))
/-! 64: _law_bodies_text(bodies); names 0=bodies 1=found 2=body 3=part -/
abbrev b_law_bodies_text_0 : Ss := (.cons (.set (.name 1) (.bin false .add (.bin false .add (.var 1) (.bm false .join (.cst (.str [32])) (.cons (.lc false [3] (.of (.bin false .add (.sl false (.var 2) .none (.some (.cst (.int 7)))) (.idx (.var 2) (.cst (.int 7))))) (.name 3) .none (.bi false .str (.cons (.var 3) .nil))) .nil))) (.cst (.str [10])))) .nil)
abbrev d_law_bodies_text : Ss := (.cons (.set (.name 1) (.cst (.str []))) (.cons (.forr (.name 2) (.of (.var 0)) b_law_bodies_text_0) (.cons (.ret [] (.var 1)) .nil)))
/-! 65: _law_show(screen, thing); names 0=screen 1=thing -/
abbrev b_law_show_0 : Ss := (.cons (.ret [] (.tup (.cons (.cst (.str [116, 111, 108, 100])) (.cons (.meth N_show (.var 0) (.cons (.var 1) .nil)) .nil)))) .nil)
abbrev b_law_show_1 : Ss := (.cons (.ret [] (.tup (.cons (.cst (.str [78, 111, 87, 111, 114, 108, 100])) .nil))) .nil)
abbrev d_law_show : Ss := (.cons (.tryo b_law_show_0 N_NoWorld b_law_show_1) .nil)
/-! 66: _law_lines_told(game, thing); names 0=game 1=thing -/
abbrev b_law_lines_told_0 : Ss := (.cons (.ret [] (.tup (.cons (.cst (.str [116, 111, 108, 100])) (.cons (.call F_body_lines (.cons (.var 0) (.cons (.var 1) .nil))) .nil)))) .nil)
abbrev b_law_lines_told_1 : Ss := (.cons (.ret [] (.tup (.cons (.cst (.str [78, 111, 87, 111, 114, 108, 100])) .nil))) .nil)
abbrev d_law_lines_told : Ss := (.cons (.tryo b_law_lines_told_0 N_NoWorld b_law_lines_told_1) .nil)
/-! 67: law(script); names 0=script 1=hand 2=rows 3=kinds 4=players 5=game 6=screen 7=twin 8=last 9=parts 10=many 11=k 12=way 13=thing 14=due 15=lines 16=far 17=later 18=body -/
abbrev b_law_0 : Ss := (.cons (.ret [] (.cst (.bl false))) .nil)
abbrev b_law_2 : Ss := (.cons (.set (.name 16) (.lc false [18] (.of (.idx (.var 9) (.cst (.int 4)))) (.name 18) .none (.bin false .add (.bin false .add (.sl false (.var 18) .none (.some (.cst (.int 3)))) (.tup (.cons (.bin false .sub (.cst (.int 0)) (.cst (.int 9))) .nil))) (.sl false (.var 18) (.some (.cst (.int 4))) .none)))) (.cons (.set (.name 13) (.call F_law_world_of (.cons (.bin false .add (.sl false (.var 9) .none (.some (.cst (.int 4)))) (.tup (.cons (.bin false .add (.bi false .tuple (.cons (.var 16) .nil)) (.tup (.cons (.cst .non) .nil))) (.cons (.idx (.var 9) (.cst (.int 5))) .nil)))) .nil))) .nil))
abbrev b_law_5 : Ss := (.cons (.set (.name 9) (.call F_law_parts (.cons (.var 1) (.cons (.var 2) (.cons (.var 3) (.cons (.var 4) (.cons (.call F_law_pick (.cons (.var 1) (.cons (.lst false (.cons (.cst (.int 0)) (.cons (.cst (.int 2)) (.cons (.cst (.int 4)) (.cons (.cst (.int 7)) .nil))))) .nil))) .nil))))))) .nil)
abbrev b_law_4 : Ss := (.cons (.ife (.val (.cmp .gt (.var 12) (.cst (.int 2)))) b_law_5 .nil) (.cons (.set (.name 13) (.call F_law_world_of (.cons (.var 9) .nil))) (.cons (.set (.name 17) (.call F_law_shown (.cons (.var 2) (.cons (.var 3) (.cons (.idx (.var 9) (.cst (.int 4))) .nil))))) (.cons (.set (.name 14) (.tup (.cons (.cst (.str [116, 111, 108, 100])) (.cons (.call F_law_differences (.cons (.var 8) (.cons (.var 17) (.cons (.bi false .len (.cons (.idx (.var 2) (.cst (.int 0))) .nil)) .nil)))) .nil)))) (.cons (.set (.name 15) (.tup (.cons (.cst (.str [116, 111, 108, 100])) (.cons (.call F_law_bodies_text (.cons (.idx (.var 9) (.cst (.int 4))) .nil)) .nil)))) (.cons (.set (.name 8) (.var 17)) (.cons (.set (.name 10) (.bin false .add (.var 10) (.cst (.int 1)))) .nil)))))))
abbrev b_law_3 : Ss := (.cons (.ife (.val (.cmp .gt (.var 12) (.cst (.int 1)))) b_law_4 .nil) .nil)
abbrev b_law_6 : Ss := (.cons (.ret [] (.cst (.bl false))) .nil)
abbrev b_law_7 : Ss := (.cons (.ret [] (.cst (.bl false))) .nil)
abbrev b_law_8 : Ss := (.cons (.ret [] (.cst (.bl false))) .nil)
abbrev b_law_1 : Ss := (.cons (.set (.name 12) (.call F_law_take (.cons (.var 1) (.cons (.cst (.int 6)) .nil)))) (.cons (.set (.name 13) (.call F_law_odd (.cons (.var 1) .nil))) (.cons (.set (.name 14) (.tup (.cons (.cst (.str [78, 111, 87, 111, 114, 108, 100])) .nil))) (.cons (.set (.name 15) (.tup (.cons (.cst (.str [78, 111, 87, 111, 114, 108, 100])) .nil))) (.cons (.ife (.val (.cmp .eq (.var 12) (.cst (.int 1)))) b_law_2 b_law_3) (.cons (.ife (.or (.not (.val (.call F_law_same (.cons (.call F_law_show (.cons (.var 6) (.cons (.var 13) .nil))) (.cons (.var 14) .nil))))) (.not (.val (.call F_law_same (.cons (.call F_law_lines_told (.cons (.var 5) (.cons (.var 13) .nil))) (.cons (.var 15) .nil)))))) b_law_6 .nil) (.cons (.ife (.or (.not (.val (.call F_law_same (.cons (.meth N_picture (.var 6) .nil) (.cons (.var 8) .nil))))) (.not (.val (.call F_law_same (.cons (.meth N_shown (.var 6) .nil) (.cons (.var 10) .nil)))))) b_law_7 .nil) (.cons (.ife (.or (.not (.val (.call F_law_same (.cons (.call F_law_show (.cons (.var 7) (.cons (.var 13) .nil))) (.cons (.var 14) .nil))))) (.not (.val (.call F_law_same (.cons (.meth N_picture (.var 7) .nil) (.cons (.var 8) .nil)))))) b_law_8 .nil) .nil))))))))
abbrev d_law : Ss := (.cons (.set (.name 1) (.call F_law_hand (.cons (.var 0) .nil))) (.cons (.set (.name 2) (.call F_law_ground (.cons (.var 1) .nil))) (.cons (.set (.name 3) (.call F_law_kinds (.cons (.var 1) .nil))) (.cons (.set (.name 4) (.bin false .add (.cst (.int 1)) (.call F_law_take (.cons (.var 1) (.cons (.cst (.int 4)) .nil))))) (.cons (.set (.name 5) (.call F_law_game_of (.cons (.var 4) (.cons (.var 2) (.cons (.var 3) (.cons (.lst false .nil) .nil)))))) (.cons (.set (.name 6) (.make N_Screen false (.cons (.var 5) .nil))) (.cons (.set (.name 7) (.make N_Screen false (.cons (.var 5) .nil))) (.cons (.set (.name 8) (.call F_law_closed (.cons (.var 2) .nil))) (.cons (.set (.name 9) (.call F_law_parts (.cons (.var 1) (.cons (.var 2) (.cons (.var 3) (.cons (.var 4) (.cons (.cst (.int 3)) .nil))))))) (.cons (.set (.name 10) (.cst (.int 0))) (.cons (.ife (.or (.not (.val (.call F_law_same (.cons (.meth N_picture (.var 6) .nil) (.cons (.var 8) .nil))))) (.not (.val (.call F_law_same (.cons (.meth N_shown (.var 6) .nil) (.cons (.cst (.int 0)) .nil)))))) b_law_0 .nil) (.cons (.forr (.name 11) (.rng1 (.bin false .add (.cst (.int 1)) (.call F_law_take (.cons (.var 1) (.cons (.cst (.int 9)) .nil))))) b_law_1) (.cons (.ret [] (.cst (.bl true))) .nil)))))))))))))
/-! 68: Ground.__init__(self, rows); names 0=self 1=rows 2=index 3=row -/
abbrev b_Ground_init_0 : Ss := (.cons .never .nil)
abbrev b_Ground_init_2 : Ss := (.cons .never .nil)
abbrev b_Ground_init_1 : Ss := (.cons (.ife (.or (.not (.val (.call F_is_row (.cons (.var 3) .nil)))) (.val (.cmp .ne (.bi false .len (.cons (.var 3) .nil)) (.bi false .len (.cons (.idx (.var 1) (.cst (.int 0))) .nil))))) b_Ground_init_2 .nil) .nil)
abbrev d_Ground_init : Ss := (.cons (.ife (.not (.val (.call F_is_sized (.cons (.var 1) (.cons (.cst (.int 1)) (.cons (.glb K_MOST_ROWS) .nil)))))) b_Ground_init_0 .nil) (.cons (.forr (.tup (.cons (.name 2) (.cons (.name 3) .nil))) (.enum (.of (.var 1))) b_Ground_init_1) (.cons (.set (.fld (.var 0) N_rows) (.var 1)) (.cons (.set (.fld (.var 0) N_wide) (.bin false .mul (.glb K_CELL) (.bi false .len (.cons (.idx (.var 1) (.cst (.int 0))) .nil)))) (.cons (.set (.fld (.var 0) N_high) (.bin false .mul (.glb K_CELL) (.bi false .len (.cons (.var 1) .nil)))) .nil)))))
/-! 69: Kind.__init__(self, wide, high, solid, pull, program); names 0=self 1=wide 2=high 3=solid 4=pull 5=program -/
abbrev b_Kind_init_0 : Ss := (.cons .never .nil)
abbrev b_Kind_init_1 : Ss := (.cons .never .nil)
abbrev b_Kind_init_2 : Ss := (.cons .never .nil)
abbrev b_Kind_init_3 : Ss := (.cons .never .nil)
abbrev b_Kind_init_4 : Ss := (.cons .never .nil)
abbrev d_Kind_init : Ss := (.cons (.ife (.not (.val (.call F_is_within (.cons (.var 1) (.cons (.cst (.int 1)) (.cons (.glb K_MOST_SIDE) .nil)))))) b_Kind_init_0 .nil) (.cons (.ife (.not (.val (.call F_is_within (.cons (.var 2) (.cons (.cst (.int 1)) (.cons (.glb K_MOST_SIDE) .nil)))))) b_Kind_init_1 .nil) (.cons (.ife (.not (.val (.bi false (.isi [.bool]) (.cons (.var 3) .nil)))) b_Kind_init_2 .nil) (.cons (.ife (.not (.val (.call F_is_within (.cons (.var 4) (.cons (.neg (.glb K_MOST_PULL)) (.cons (.glb K_MOST_PULL) .nil)))))) b_Kind_init_3 .nil) (.cons (.ife (.and (.val (.notN (.var 5))) (.not (.val (.bi false (.isi [(.cls N_Program)]) (.cons (.var 5) .nil))))) b_Kind_init_4 .nil) (.cons (.set (.fld (.var 0) N_wide) (.var 1)) (.cons (.set (.fld (.var 0) N_high) (.var 2)) (.cons (.set (.fld (.var 0) N_solid) (.var 3)) (.cons (.set (.fld (.var 0) N_pull) (.var 4)) (.cons (.set (.fld (.var 0) N_program) (.var 5)) .nil))))))))))
/-! 70: Game.__init__(self, players, ground, kinds, births); names 0=self 1=players 2=ground 3=kinds 4=births 5=placed 6=index 7=birth 8=kind -/
abbrev b_Game_init_0 : Ss := (.cons .never .nil)
abbrev b_Game_init_1 : Ss := (.cons .never .nil)
abbrev b_Game_init_2 : Ss := (.cons .never .nil)
abbrev b_Game_init_3 : Ss := (.cons .never .nil)
abbrev b_Game_init_5 : Ss := (.cons .never .nil)
abbrev b_Game_init_6 : Ss := (.cons .never .nil)
abbrev b_Game_init_4 : Ss := (.cons (.ife (.not (.val (.call F_is_birth (.cons (.var 1) (.cons (.var 3) (.cons (.var 7) .nil)))))) b_Game_init_5 .nil) (.cons (.ife (.not (.val (.call F_is_clear (.cons (.var 2) (.cons (.var 3) (.cons (.idx (.var 7) (.cst (.int 0))) (.cons (.idx (.var 7) (.cst (.int 1))) (.cons (.idx (.var 7) (.cst (.int 2))) (.cons (.var 5) .nil))))))))) b_Game_init_6 .nil) (.cons (.exp (.bm false .append (.var 5) (.cons (.sl false (.var 7) .none (.some (.cst (.int 3)))) .nil))) .nil)))
abbrev d_Game_init : Ss := (.cons (.ife (.not (.val (.call F_is_within (.cons (.var 1) (.cons (.cst (.int 1)) (.cons (.glb K_MOST_PLAYERS) .nil)))))) b_Game_init_0 .nil) (.cons (.ife (.not (.val (.bi false (.isi [(.cls N_Ground)]) (.cons (.var 2) .nil)))) b_Game_init_1 .nil) (.cons (.ife (.or (.not (.val (.call F_is_sized (.cons (.var 3) (.cons (.cst (.int 1)) (.cons (.glb K_MOST_KINDS) .nil)))))) (.not (.val (.bi false .all (.cons (.lc false [8] (.of (.var 3)) (.name 8) .none (.bi false (.isi [(.cls N_Kind)]) (.cons (.var 8) .nil))) .nil))))) b_Game_init_2 .nil) (.cons (.ife (.not (.val (.call F_is_sized (.cons (.var 4) (.cons (.cst (.int 0)) (.cons (.glb K_MOST_BIRTHS) .nil)))))) b_Game_init_3 .nil) (.cons (.set (.name 5) (.lst true .nil)) (.cons (.forr (.tup (.cons (.name 6) (.cons (.name 7) .nil))) (.enum (.of (.var 4))) b_Game_init_4) (.cons (.set (.fld (.var 0) N_players) (.var 1)) (.cons (.set (.fld (.var 0) N_ground) (.var 2)) (.cons (.set (.fld (.var 0) N_kinds) (.var 3)) (.cons (.set (.fld (.var 0) N_births) (.var 4)) .nil))))))))))
/-! 71: World.__init__(self, tick, seed, shared, count, bodies, said); names 0=self 1=tick 2=seed 3=shared 4=count 5=bodies 6=said -/
abbrev d_World_init : Ss := (.cons (.set (.fld (.var 0) N_tick) (.var 1)) (.cons (.set (.fld (.var 0) N_seed) (.var 2)) (.cons (.set (.fld (.var 0) N_shared) (.var 3)) (.cons (.set (.fld (.var 0) N_count) (.var 4)) (.cons (.set (.fld (.var 0) N_bodies) (.var 5)) (.cons (.set (.fld (.var 0) N_said) (.var 6)) .nil))))))
/-! 72: Screen.__init__(self, game); names 0=self 1=game -/
abbrev d_Screen_init : Ss := (.cons (.set (.fld (.var 0) N_played) (.var 1)) (.cons (.set (.fld (.var 0) N_drawing) (.call F_ground_picture (.cons (.var 1) .nil))) (.cons (.set (.fld (.var 0) N_times) (.cst (.int 0))) .nil)))
/-! 73: Screen.show(self, world); names 0=self 1=world 2=later 3=found -/
abbrev d_Screen_show : Ss := (.cons (.set (.name 2) (.call F_drawn (.cons (.fld (.var 0) N_played) (.cons (.var 1) .nil)))) (.cons (.set (.name 3) (.call F_changes_between (.cons (.fld (.var 0) N_drawing) (.cons (.var 2) .nil)))) (.cons (.set (.fld (.var 0) N_drawing) (.var 2)) (.cons (.augf (.var 0) N_times .add (.cst (.int 1))) (.cons (.ret [] (.var 3)) .nil)))))
/-! 74: Screen.picture(self); names 0=self -/
abbrev d_Screen_picture : Ss := (.cons (.ret [] (.fld (.var 0) N_drawing)) .nil)
/-! 75: Screen.shown(self); names 0=self -/
abbrev d_Screen_shown : Ss := (.cons (.ret [] (.fld (.var 0) N_times)) .nil)
/-! tables -/
def nms0 : List PySem.Str := ["Ground",
  "rows",
  "wide",
  "high",
  "Kind",
  "solid",
  "pull",
  "program",
  "Game",
  "players",
  "ground",
  "kinds",
  "births",
  "World",
  "tick",
  "seed"]
def nms1 : List PySem.Str := ["shared",
  "count",
  "bodies",
  "said",
  "Screen",
  "played",
  "drawing",
  "times",
  "NoWorld",
  "show",
  "shown",
  "picture",
  "Program"]
def nms : List PySem.Str := nms0 ++ nms1
def fnp0 : List (PySem.Str × Option PySem.Str) := [("is_integer", none),
  ("is_within", none),
  ("is_small", none),
  ("is_below", none),
  ("is_sized", none),
  ("are_small", none),
  ("is_word", none),
  ("is_row", none),
  ("spanned", none),
  ("opens", none),
  ("shares", none),
  ("is_clear", none)]
def fnp1 : List (PySem.Str × Option PySem.Str) := [("is_birth", none),
  ("is_seed", none),
  ("is_speed", none),
  ("is_body", none),
  ("are_bodies", none),
  ("fits", none),
  ("check_world", none),
  ("rows_of", none),
  ("text_of_rows", none),
  ("ground_picture", none),
  ("letter_of_body", none),
  ("picture_of", none)]
def fnp2 : List (PySem.Str × Option PySem.Str) := [("drawn", none),
  ("changes_between", none),
  ("body_line", none),
  ("lines_of_bodies", none),
  ("body_lines", none),
  ("_law_hand", none),
  ("_law_take", none),
  ("_law_pick", none),
  ("_law_wide", none),
  ("_law_small", none),
  ("_law_seed", none),
  ("_law_is_integer", none)]
def fnp3 : List (PySem.Str × Option PySem.Str) := [("_law_same", none),
  ("_law_odd", none),
  ("_law_ground_sign", none),
  ("_law_rows", none),
  ("_law_ground", none),
  ("_law_sign", none),
  ("_law_spots", none),
  ("_law_open", none),
  ("_law_common", none),
  ("_law_clear", none),
  ("_law_kind", none),
  ("_law_kinds", none)]
def fnp4 : List (PySem.Str × Option PySem.Str) := [("_law_place", none),
  ("_law_placed", none),
  ("_law_speed", none),
  ("_law_bodies", none),
  ("_law_count_of", none),
  ("_law_tick", none),
  ("_law_said", none),
  ("_law_parts", none),
  ("_law_world_of", none),
  ("_law_program_of", none),
  ("_law_kind_of", none),
  ("_law_game_of", none)]
def fnp5 : List (PySem.Str × Option PySem.Str) := [("_law_closed", none),
  ("_law_shown_sign", none),
  ("_law_shown", none),
  ("_law_differences", none),
  ("_law_bodies_text", none),
  ("_law_show", none),
  ("_law_lines_told", none),
  ("law", none),
  ("Ground", some "__init__"),
  ("Kind", some "__init__"),
  ("Game", some "__init__"),
  ("World", some "__init__")]
def fnp6 : List (PySem.Str × Option PySem.Str) := [("Screen", some "__init__"),
  ("Screen", some "show"),
  ("Screen", some "picture"),
  ("Screen", some "shown")]
def fnp : List (PySem.Str × Option PySem.Str) := fnp0 ++ fnp1 ++ fnp2 ++ fnp3 ++ fnp4 ++ fnp5 ++ fnp6
def cns0 : List (PySem.Str × D) := [("MOST_SMALL", (.int 2147483647)),
  ("LEAST_SMALL", (.int (-2147483648))),
  ("MOST_SIGNS", (.int 40)),
  ("FREE", (.str [46])),
  ("WALL", (.str [35])),
  ("MARKS", (.str [48, 49, 50, 51, 52, 53, 54, 55, 56, 57])),
  ("CELL", (.int 8)),
  ("PRIME", (.int 2147483647)),
  ("MOST_SPEED", (.int 16)),
  ("MANY_CELLS", (.int 4)),
  ("MOST_BODIES_worlds", (.int 32)),
  ("MOST_TICK", (.int 1000000000))]
def cns1 : List (PySem.Str × D) := [("MANY_SHARED", (.int 8)),
  ("MOST_SAID", (.int 64)),
  ("LINE_END", (.str [10])),
  ("LETTERS", (.str [97, 98, 99, 100, 101, 102, 103, 104])),
  ("BLANK", (.str [32])),
  ("MOST_ROWS", (.int 30)),
  ("MOST_SIDE", (.int 32)),
  ("MOST_PULL", (.int 4)),
  ("MOST_PLAYERS", (.int 4)),
  ("MOST_KINDS", (.int 8)),
  ("MOST_BIRTHS", (.int 16))]
def cns : List (PySem.Str × D) := cns0 ++ cns1
def tb : Tb := ⟨nms, fnp, cns, [(0, [1, 2, 3]), (4, [2, 3, 5, 6, 7]), (8, [9, 10, 11, 12]), (13, [14, 15, 16, 17, 18, 19]), (20, [21, 22, 23])], [(20, 25, 73), (20, 26, 75), (20, 27, 74)], [(0, 68), (4, 69), (8, 70), (13, 71), (20, 72)], [24], [], [13, 28, 0, 4]⟩
def dd0 : Dd := ⟨⟨("is_integer", none), "is_integer", "is_integer", defArgs (top 10), defBody (top 10), defScope (top 10), [], []⟩, ["thing"], ["thing"], ⟨1, 1, d_is_integer, []⟩⟩
def dd1 : Dd := ⟨⟨("is_within", none), "is_within", "is_within", defArgs (top 11), defBody (top 11), defScope (top 11), [], []⟩, ["thing", "least", "most"], ["thing", "least", "most"], ⟨3, 3, d_is_within, []⟩⟩
def dd2 : Dd := ⟨⟨("is_small", none), "is_small", "is_small", defArgs (top 12), defBody (top 12), defScope (top 12), [], []⟩, ["thing"], ["thing"], ⟨1, 1, d_is_small, []⟩⟩
def dd3 : Dd := ⟨⟨("is_below", none), "is_below", "is_below", defArgs (top 13), defBody (top 13), defScope (top 13), [], []⟩, ["thing", "many"], ["thing", "many"], ⟨2, 2, d_is_below, []⟩⟩
def dd4 : Dd := ⟨⟨("is_sized", none), "is_sized", "is_sized", defArgs (top 14), defBody (top 14), defScope (top 14), [], []⟩, ["thing", "least", "most"], ["thing", "least", "most"], ⟨3, 3, d_is_sized, []⟩⟩
def dd5 : Dd := ⟨⟨("are_small", none), "are_small", "are_small", defArgs (top 15), defBody (top 15), defScope (top 15), [], []⟩, ["thing", "many", "item"], ["thing", "many"], ⟨2, 3, d_are_small, []⟩⟩
def dd6 : Dd := ⟨⟨("is_word", none), "is_word", "is_word", defArgs (top 16), defBody (top 16), defScope (top 16), [], []⟩, ["thing", "words"], ["thing", "words"], ⟨2, 2, d_is_word, []⟩⟩
def dd7 : Dd := ⟨⟨("is_row", none), "is_row", "is_row", defArgs (top 25), defBody (top 25), defScope (top 25), [], []⟩, ["thing", "sign"], ["thing"], ⟨1, 2, d_is_row, []⟩⟩
def dd8 : Dd := ⟨⟨("spanned", none), "spanned", "spanned", defArgs (top 27), defBody (top 27), defScope (top 27), [], []⟩, ["begin", "length"], ["begin", "length"], ⟨2, 2, d_spanned, []⟩⟩
def dd9 : Dd := ⟨⟨("opens", none), "opens", "opens", defArgs (top 28), defBody (top 28), defScope (top 28), [], []⟩, ["ground", "x", "y", "wide", "high", "row", "column"], ["ground", "x", "y", "wide", "high"], ⟨5, 7, d_opens, []⟩⟩
def dd10 : Dd := ⟨⟨("shares", none), "shares", "shares", defArgs (top 70), defBody (top 70), defScope (top 70), [], []⟩, ["kind", "x", "y", "other", "left", "top"], ["kind", "x", "y", "other", "left", "top"], ⟨6, 6, d_shares, []⟩⟩
def dd11 : Dd := ⟨⟨("is_clear", none), "is_clear", "is_clear", defArgs (top 71), defBody (top 71), defScope (top 71), [], []⟩, ["ground", "kinds", "number", "x", "y", "placed", "kind", "other", "left", "top"], ["ground", "kinds", "number", "x", "y", "placed"], ⟨6, 10, d_is_clear, []⟩⟩
def dd12 : Dd := ⟨⟨("is_birth", none), "is_birth", "is_birth", defArgs (top 72), defBody (top 72), defScope (top 72), [], []⟩, ["players", "kinds", "thing"], ["players", "kinds", "thing"], ⟨3, 3, d_is_birth, []⟩⟩
def dd13 : Dd := ⟨⟨("is_seed", none), "is_seed", "is_seed", defArgs (top 76), defBody (top 76), defScope (top 76), [], []⟩, ["thing"], ["thing"], ⟨1, 1, d_is_seed, []⟩⟩
def dd14 : Dd := ⟨⟨("is_speed", none), "is_speed", "is_speed", defArgs (top 85), defBody (top 85), defScope (top 85), [], []⟩, ["thing"], ["thing"], ⟨1, 1, d_is_speed, []⟩⟩
def dd15 : Dd := ⟨⟨("is_body", none), "is_body", "is_body", defArgs (top 86), defBody (top 86), defScope (top 86), [], []⟩, ["game", "count", "thing"], ["game", "count", "thing"], ⟨3, 3, d_is_body, []⟩⟩
def dd16 : Dd := ⟨⟨("are_bodies", none), "are_bodies", "are_bodies", defArgs (top 87), defBody (top 87), defScope (top 87), [], []⟩, ["game", "count", "thing", "placed", "at", "body", "kind", "x", "y", "one", "other"], ["game", "count", "thing"], ⟨3, 11, d_are_bodies, []⟩⟩
def dd17 : Dd := ⟨⟨("fits", none), "fits", "fits", defArgs (top 88), defBody (top 88), defScope (top 88), [], []⟩, ["game", "thing", "item"], ["game", "thing"], ⟨2, 3, d_fits, []⟩⟩
def dd18 : Dd := ⟨⟨("check_world", none), "check_world", "check_world", defArgs (top 89), defBody (top 89), defScope (top 89), [], []⟩, ["game", "thing"], ["game", "thing"], ⟨2, 2, d_check_world, []⟩⟩
def dd19 : Dd := ⟨⟨("rows_of", none), "rows_of", "rows_of", defArgs (top 94), defBody (top 94), defScope (top 94), [], []⟩, ["picture"], ["picture"], ⟨1, 1, d_rows_of, []⟩⟩
def dd20 : Dd := ⟨⟨("text_of_rows", none), "text_of_rows", "text_of_rows", defArgs (top 95), defBody (top 95), defScope (top 95), [], []⟩, ["rows", "row"], ["rows"], ⟨1, 2, d_text_of_rows, []⟩⟩
def dd21 : Dd := ⟨⟨("ground_picture", none), "ground_picture", "ground_picture", defArgs (top 96), defBody (top 96), defScope (top 96), [], []⟩, ["game"], ["game"], ⟨1, 1, d_ground_picture, []⟩⟩
def dd22 : Dd := ⟨⟨("letter_of_body", none), "letter_of_body", "letter_of_body", defArgs (top 97), defBody (top 97), defScope (top 97), [], []⟩, ["body", "letter"], ["body"], ⟨1, 2, d_letter_of_body, []⟩⟩
def dd23 : Dd := ⟨⟨("picture_of", none), "picture_of", "picture_of", defArgs (top 98), defBody (top 98), defScope (top 98), [], []⟩, ["game", "world", "rows", "body", "kind", "at", "row", "place"], ["game", "world"], ⟨2, 8, d_picture_of, [2]⟩⟩
def dd24 : Dd := ⟨⟨("drawn", none), "drawn", "drawn", defArgs (top 99), defBody (top 99), defScope (top 99), [], []⟩, ["game", "world"], ["game", "world"], ⟨2, 2, d_drawn, []⟩⟩
def dd25 : Dd := ⟨⟨("changes_between", none), "changes_between", "changes_between", defArgs (top 100), defBody (top 100), defScope (top 100), [], []⟩, ["one", "other", "found", "row", "old", "new", "place", "sign"], ["one", "other"], ⟨2, 8, d_changes_between, [2]⟩⟩
def dd26 : Dd := ⟨⟨("body_line", none), "body_line", "body_line", defArgs (top 101), defBody (top 101), defScope (top 101), [], []⟩, ["body", "part"], ["body"], ⟨1, 2, d_body_line, []⟩⟩
def dd27 : Dd := ⟨⟨("lines_of_bodies", none), "lines_of_bodies", "lines_of_bodies", defArgs (top 102), defBody (top 102), defScope (top 102), [], []⟩, ["world", "body"], ["world"], ⟨1, 2, d_lines_of_bodies, []⟩⟩
def dd28 : Dd := ⟨⟨("body_lines", none), "body_lines", "body_lines", defArgs (top 103), defBody (top 103), defScope (top 103), [], []⟩, ["game", "world"], ["game", "world"], ⟨2, 2, d_body_lines, []⟩⟩
def dd29 : Dd := ⟨⟨("_law_hand", none), "_law_hand", "_law_hand", defArgs (top 106), defBody (top 106), defScope (top 106), [], []⟩, ["script"], ["script"], ⟨1, 1, d_law_hand, []⟩⟩
def dd30 : Dd := ⟨⟨("_law_take", none), "_law_take", "_law_take", defArgs (top 107), defBody (top 107), defScope (top 107), [], []⟩, ["hand", "many", "number", "cell", "found"], ["hand", "many"], ⟨2, 5, d_law_take, []⟩⟩
def dd31 : Dd := ⟨⟨("_law_pick", none), "_law_pick", "_law_pick", defArgs (top 108), defBody (top 108), defScope (top 108), [], []⟩, ["hand", "things"], ["hand", "things"], ⟨2, 2, d_law_pick, []⟩⟩
def dd32 : Dd := ⟨⟨("_law_wide", none), "_law_wide", "_law_wide", defArgs (top 109), defBody (top 109), defScope (top 109), [], []⟩, ["hand"], ["hand"], ⟨1, 1, d_law_wide, []⟩⟩
def dd33 : Dd := ⟨⟨("_law_small", none), "_law_small", "_law_small", defArgs (top 110), defBody (top 110), defScope (top 110), [], []⟩, ["hand", "way"], ["hand"], ⟨1, 2, d_law_small, []⟩⟩
def dd34 : Dd := ⟨⟨("_law_seed", none), "_law_seed", "_law_seed", defArgs (top 111), defBody (top 111), defScope (top 111), [], []⟩, ["hand"], ["hand"], ⟨1, 1, d_law_seed, []⟩⟩
def dd35 : Dd := ⟨⟨("_law_is_integer", none), "_law_is_integer", "_law_is_integer", defArgs (top 112), defBody (top 112), defScope (top 112), [], []⟩, ["thing"], ["thing"], ⟨1, 1, d_law_is_integer, []⟩⟩
def dd36 : Dd := ⟨⟨("_law_same", none), "_law_same", "_law_same", defArgs (top 113), defBody (top 113), defScope (top 113), [], []⟩, ["actual", "due", "one", "other"], ["actual", "due"], ⟨2, 4, d_law_same, []⟩⟩
def dd37 : Dd := ⟨⟨("_law_odd", none), "_law_odd", "_law_odd", defArgs (top 114), defBody (top 114), defScope (top 114), [], []⟩, ["hand", "way"], ["hand"], ⟨1, 2, d_law_odd, []⟩⟩
def dd38 : Dd := ⟨⟨("_law_ground_sign", none), "_law_ground_sign", "_law_ground_sign", defArgs (top 115), defBody (top 115), defScope (top 115), [], []⟩, ["hand", "full", "way"], ["hand", "full"], ⟨2, 3, d_law_ground_sign, []⟩⟩
def dd39 : Dd := ⟨⟨("_law_rows", none), "_law_rows", "_law_rows", defArgs (top 116), defBody (top 116), defScope (top 116), [], []⟩, ["hand", "wide", "high", "full", "found", "k", "j"], ["hand", "wide", "high"], ⟨3, 7, d_law_rows, [4]⟩⟩
def dd40 : Dd := ⟨⟨("_law_ground", none), "_law_ground", "_law_ground", defArgs (top 117), defBody (top 117), defScope (top 117), [], []⟩, ["hand", "way"], ["hand"], ⟨1, 2, d_law_ground, []⟩⟩
def dd41 : Dd := ⟨⟨("_law_sign", none), "_law_sign", "_law_sign", defArgs (top 118), defBody (top 118), defScope (top 118), [], []⟩, ["rows", "x", "y"], ["rows", "x", "y"], ⟨3, 3, d_law_sign, []⟩⟩
def dd42 : Dd := ⟨⟨("_law_spots", none), "_law_spots", "_law_spots", defArgs (top 119), defBody (top 119), defScope (top 119), [], []⟩, ["begin", "length", "k"], ["begin", "length"], ⟨2, 3, d_law_spots, []⟩⟩
def dd43 : Dd := ⟨⟨("_law_open", none), "_law_open", "_law_open", defArgs (top 120), defBody (top 120), defScope (top 120), [], []⟩, ["rows", "x", "y", "wide", "high", "down", "across"], ["rows", "x", "y", "wide", "high"], ⟨5, 7, d_law_open, []⟩⟩
def dd44 : Dd := ⟨⟨("_law_common", none), "_law_common", "_law_common", defArgs (top 121), defBody (top 121), defScope (top 121), [], []⟩, ["kinds", "one", "other", "wide", "high"], ["kinds", "one", "other"], ⟨3, 5, d_law_common, []⟩⟩
def dd45 : Dd := ⟨⟨("_law_clear", none), "_law_clear", "_law_clear", defArgs (top 122), defBody (top 122), defScope (top 122), [], []⟩, ["rows", "kinds", "kind", "x", "y", "placed", "other"], ["rows", "kinds", "kind", "x", "y", "placed"], ⟨6, 7, d_law_clear, []⟩⟩
def dd46 : Dd := ⟨⟨("_law_kind", none), "_law_kind", "_law_kind", defArgs (top 123), defBody (top 123), defScope (top 123), [], []⟩, ["hand", "solid", "wide", "high"], ["hand"], ⟨1, 4, d_law_kind, []⟩⟩
def dd47 : Dd := ⟨⟨("_law_kinds", none), "_law_kinds", "_law_kinds", defArgs (top 124), defBody (top 124), defScope (top 124), [], []⟩, ["hand", "many", "k"], ["hand"], ⟨1, 3, d_law_kinds, []⟩⟩
def dd48 : Dd := ⟨⟨("_law_place", none), "_law_place", "_law_place", defArgs (top 125), defBody (top 125), defScope (top 125), [], []⟩, ["hand", "rows", "kinds", "kind", "placed", "way", "gap", "other", "left", "top"], ["hand", "rows", "kinds", "kind", "placed"], ⟨5, 10, d_law_place, []⟩⟩
def dd49 : Dd := ⟨⟨("_law_placed", none), "_law_placed", "_law_placed", defArgs (top 126), defBody (top 126), defScope (top 126), [], []⟩, ["hand", "rows", "kinds", "many", "found", "k", "kind", "times", "x", "y"], ["hand", "rows", "kinds", "many"], ⟨4, 10, d_law_placed, [4]⟩⟩
def dd50 : Dd := ⟨⟨("_law_speed", none), "_law_speed", "_law_speed", defArgs (top 127), defBody (top 127), defScope (top 127), [], []⟩, ["hand", "way"], ["hand"], ⟨1, 2, d_law_speed, []⟩⟩
def dd51 : Dd := ⟨⟨("_law_bodies", none), "_law_bodies", "_law_bodies", defArgs (top 128), defBody (top 128), defScope (top 128), [], []⟩, ["hand", "rows", "kinds", "players", "many", "found", "number", "kind", "x", "y", "dx", "dy", "owner", "cells", "k"], ["hand", "rows", "kinds", "players", "many"], ⟨5, 15, d_law_bodies, [5]⟩⟩
def dd52 : Dd := ⟨⟨("_law_count_of", none), "_law_count_of", "_law_count_of", defArgs (top 129), defBody (top 129), defScope (top 129), [], []⟩, ["hand", "bodies", "least"], ["hand", "bodies"], ⟨2, 3, d_law_count_of, []⟩⟩
def dd53 : Dd := ⟨⟨("_law_tick", none), "_law_tick", "_law_tick", defArgs (top 130), defBody (top 130), defScope (top 130), [], []⟩, ["hand"], ["hand"], ⟨1, 1, d_law_tick, []⟩⟩
def dd54 : Dd := ⟨⟨("_law_said", none), "_law_said", "_law_said", defArgs (top 131), defBody (top 131), defScope (top 131), [], []⟩, ["hand", "k"], ["hand"], ⟨1, 2, d_law_said, []⟩⟩
def dd55 : Dd := ⟨⟨("_law_parts", none), "_law_parts", "_law_parts", defArgs (top 132), defBody (top 132), defScope (top 132), [], []⟩, ["hand", "rows", "kinds", "players", "many", "bodies", "shared", "tick", "seed", "count", "k"], ["hand", "rows", "kinds", "players", "many"], ⟨5, 11, d_law_parts, []⟩⟩
def dd56 : Dd := ⟨⟨("_law_world_of", none), "_law_world_of", "_law_world_of", defArgs (top 133), defBody (top 133), defScope (top 133), [], []⟩, ["parts"], ["parts"], ⟨1, 1, d_law_world_of, []⟩⟩
def dd57 : Dd := ⟨⟨("_law_program_of", none), "_law_program_of", "_law_program_of", defArgs (top 134), defBody (top 134), defScope (top 134), [], []⟩, ["handlers"], ["handlers"], ⟨1, 1, d_law_program_of, []⟩⟩
def dd58 : Dd := ⟨⟨("_law_kind_of", none), "_law_kind_of", "_law_kind_of", defArgs (top 135), defBody (top 135), defScope (top 135), [], []⟩, ["kind"], ["kind"], ⟨1, 1, d_law_kind_of, []⟩⟩
def dd59 : Dd := ⟨⟨("_law_game_of", none), "_law_game_of", "_law_game_of", defArgs (top 136), defBody (top 136), defScope (top 136), [], []⟩, ["players", "rows", "kinds", "births", "kind"], ["players", "rows", "kinds", "births"], ⟨4, 5, d_law_game_of, []⟩⟩
def dd60 : Dd := ⟨⟨("_law_closed", none), "_law_closed", "_law_closed", defArgs (top 137), defBody (top 137), defScope (top 137), [], []⟩, ["lines", "line"], ["lines"], ⟨1, 2, d_law_closed, []⟩⟩
def dd61 : Dd := ⟨⟨("_law_shown_sign", none), "_law_shown_sign", "_law_shown_sign", defArgs (top 138), defBody (top 138), defScope (top 138), [], []⟩, ["kinds", "bodies", "row", "place", "sign", "body"], ["kinds", "bodies", "row", "place", "sign"], ⟨5, 6, d_law_shown_sign, []⟩⟩
def dd62 : Dd := ⟨⟨("_law_shown", none), "_law_shown", "_law_shown", defArgs (top 139), defBody (top 139), defScope (top 139), [], []⟩, ["rows", "kinds", "bodies", "found", "row", "place"], ["rows", "kinds", "bodies"], ⟨3, 6, d_law_shown, []⟩⟩
def dd63 : Dd := ⟨⟨("_law_differences", none), "_law_differences", "_law_differences", defArgs (top 140), defBody (top 140), defScope (top 140), [], []⟩, ["one", "other", "wide", "found", "at"], ["one", "other", "wide"], ⟨3, 5, d_law_differences, [3]⟩⟩
def dd64 : Dd := ⟨⟨("_law_bodies_text", none), "_law_bodies_text", "_law_bodies_text", defArgs (top 141), defBody (top 141), defScope (top 141), [], []⟩, ["bodies", "found", "body", "part"], ["bodies"], ⟨1, 4, d_law_bodies_text, []⟩⟩
def dd65 : Dd := ⟨⟨("_law_show", none), "_law_show", "_law_show", defArgs (top 142), defBody (top 142), defScope (top 142), [], []⟩, ["screen", "thing"], ["screen", "thing"], ⟨2, 2, d_law_show, []⟩⟩
def dd66 : Dd := ⟨⟨("_law_lines_told", none), "_law_lines_told", "_law_lines_told", defArgs (top 143), defBody (top 143), defScope (top 143), [], []⟩, ["game", "thing"], ["game", "thing"], ⟨2, 2, d_law_lines_told, []⟩⟩
def dd67 : Dd := ⟨⟨("law", none), "law", "law", defArgs (top 144), defBody (top 144), defScope (top 144), [], []⟩, ["script", "hand", "rows", "kinds", "players", "game", "screen", "twin", "last", "parts", "many", "k", "way", "thing", "due", "lines", "far", "later", "body"], ["script"], ⟨1, 19, d_law, []⟩⟩
def dd68 : Dd := ⟨⟨("Ground", some "__init__"), "__init__", "Ground.__init__", defArgs (inClass (top 26) 0), defBody (inClass (top 26) 0), defScope (inClass (top 26) 0), [], []⟩, ["self", "rows", "index", "row"], ["self", "rows"], ⟨2, 4, d_Ground_init, []⟩⟩
def dd69 : Dd := ⟨⟨("Kind", some "__init__"), "__init__", "Kind.__init__", defArgs (inClass (top 69) 0), defBody (inClass (top 69) 0), defScope (inClass (top 69) 0), [], []⟩, ["self", "wide", "high", "solid", "pull", "program"], ["self", "wide", "high", "solid", "pull", "program"], ⟨6, 6, d_Kind_init, []⟩⟩
def dd70 : Dd := ⟨⟨("Game", some "__init__"), "__init__", "Game.__init__", defArgs (inClass (top 73) 0), defBody (inClass (top 73) 0), defScope (inClass (top 73) 0), [], []⟩, ["self", "players", "ground", "kinds", "births", "placed", "index", "birth", "kind"], ["self", "players", "ground", "kinds", "births"], ⟨5, 9, d_Game_init, [5]⟩⟩
def dd71 : Dd := ⟨⟨("World", some "__init__"), "__init__", "World.__init__", defArgs (inClass (top 84) 0), defBody (inClass (top 84) 0), defScope (inClass (top 84) 0), [], []⟩, ["self", "tick", "seed", "shared", "count", "bodies", "said"], ["self", "tick", "seed", "shared", "count", "bodies", "said"], ⟨7, 7, d_World_init, []⟩⟩
def dd72 : Dd := ⟨⟨("Screen", some "__init__"), "__init__", "Screen.__init__", defArgs (inClass (top 104) 0), defBody (inClass (top 104) 0), defScope (inClass (top 104) 0), [], []⟩, ["self", "game"], ["self", "game"], ⟨2, 2, d_Screen_init, []⟩⟩
def dd73 : Dd := ⟨⟨("Screen", some "show"), "show", "Screen.show", defArgs (inClass (top 104) 1), defBody (inClass (top 104) 1), defScope (inClass (top 104) 1), [], []⟩, ["self", "world", "later", "found"], ["self", "world"], ⟨2, 4, d_Screen_show, []⟩⟩
def dd74 : Dd := ⟨⟨("Screen", some "picture"), "picture", "Screen.picture", defArgs (inClass (top 104) 2), defBody (inClass (top 104) 2), defScope (inClass (top 104) 2), [], []⟩, ["self"], ["self"], ⟨1, 1, d_Screen_picture, []⟩⟩
def dd75 : Dd := ⟨⟨("Screen", some "shown"), "shown", "Screen.shown", defArgs (inClass (top 104) 3), defBody (inClass (top 104) 3), defScope (inClass (top 104) 3), [], []⟩, ["self"], ["self"], ⟨1, 1, d_Screen_shown, []⟩⟩
def dds0 : List Dd := [dd0,
  dd1,
  dd2,
  dd3,
  dd4,
  dd5,
  dd6,
  dd7,
  dd8,
  dd9,
  dd10,
  dd11,
  dd12,
  dd13,
  dd14,
  dd15]
def dds1 : List Dd := [dd16,
  dd17,
  dd18,
  dd19,
  dd20,
  dd21,
  dd22,
  dd23,
  dd24,
  dd25,
  dd26,
  dd27,
  dd28,
  dd29,
  dd30,
  dd31]
def dds2 : List Dd := [dd32,
  dd33,
  dd34,
  dd35,
  dd36,
  dd37,
  dd38,
  dd39,
  dd40,
  dd41,
  dd42,
  dd43,
  dd44,
  dd45,
  dd46,
  dd47]
def dds3 : List Dd := [dd48,
  dd49,
  dd50,
  dd51,
  dd52,
  dd53,
  dd54,
  dd55,
  dd56,
  dd57,
  dd58,
  dd59,
  dd60,
  dd61,
  dd62,
  dd63]
def dds4 : List Dd := [dd64,
  dd65,
  dd66,
  dd67,
  dd68,
  dd69,
  dd70,
  dd71,
  dd72,
  dd73,
  dd74,
  dd75]
def dds : List Dd := dds0 ++ dds1 ++ dds2 ++ dds3 ++ dds4
abbrev fs : Nat → Option Fd := fsOf dds
abbrev gg : G := tb.g
/-! what is known of the tables -/
theorem gc_MOST_SMALL : gg.con K_MOST_SMALL = some (.int 2147483647) := rfl
theorem gc_LEAST_SMALL : gg.con K_LEAST_SMALL = some (.int (-2147483648)) := rfl
theorem gc_MOST_SIGNS : gg.con K_MOST_SIGNS = some (.int 40) := rfl
theorem gc_FREE : gg.con K_FREE = some (.str [46]) := rfl
theorem gc_WALL : gg.con K_WALL = some (.str [35]) := rfl
theorem gc_MARKS : gg.con K_MARKS = some (.str [48, 49, 50, 51, 52, 53, 54, 55, 56, 57]) := rfl
theorem gc_CELL : gg.con K_CELL = some (.int 8) := rfl
theorem gc_PRIME : gg.con K_PRIME = some (.int 2147483647) := rfl
theorem gc_MOST_SPEED : gg.con K_MOST_SPEED = some (.int 16) := rfl
theorem gc_MANY_CELLS : gg.con K_MANY_CELLS = some (.int 4) := rfl
theorem gc_MOST_BODIES_worlds : gg.con K_MOST_BODIES_worlds = some (.int 32) := rfl
theorem gc_MOST_TICK : gg.con K_MOST_TICK = some (.int 1000000000) := rfl
theorem gc_MANY_SHARED : gg.con K_MANY_SHARED = some (.int 8) := rfl
theorem gc_MOST_SAID : gg.con K_MOST_SAID = some (.int 64) := rfl
theorem gc_LINE_END : gg.con K_LINE_END = some (.str [10]) := rfl
theorem gc_LETTERS : gg.con K_LETTERS = some (.str [97, 98, 99, 100, 101, 102, 103, 104]) := rfl
theorem gc_BLANK : gg.con K_BLANK = some (.str [32]) := rfl
theorem gc_MOST_ROWS : gg.con K_MOST_ROWS = some (.int 30) := rfl
theorem gc_MOST_SIDE : gg.con K_MOST_SIDE = some (.int 32) := rfl
theorem gc_MOST_PULL : gg.con K_MOST_PULL = some (.int 4) := rfl
theorem gc_MOST_PLAYERS : gg.con K_MOST_PLAYERS = some (.int 4) := rfl
theorem gc_MOST_KINDS : gg.con K_MOST_KINDS = some (.int 8) := rfl
theorem gc_MOST_BIRTHS : gg.con K_MOST_BIRTHS = some (.int 16) := rfl
theorem gm_Screen_show : gg.mt N_Screen N_show = some F_Screen_show := rfl
theorem gm_Screen_shown : gg.mt N_Screen N_shown = some F_Screen_shown := rfl
theorem gm_Screen_picture : gg.mt N_Screen N_picture = some F_Screen_picture := rfl
theorem gi_Ground : gg.ini N_Ground = some F_Ground_init := rfl
theorem gi_Kind : gg.ini N_Kind = some F_Kind_init := rfl
theorem gi_Game : gg.ini N_Game = some F_Game_init := rfl
theorem gi_World : gg.ini N_World = some F_World_init := rfl
theorem gi_Screen : gg.ini N_Screen = some F_Screen_init := rfl
theorem gf_Ground : gg.fat N_Ground = [N_rows, N_wide, N_high] := rfl
theorem gf_Kind : gg.fat N_Kind = [N_wide, N_high, N_solid, N_pull, N_program] := rfl
theorem gf_Game : gg.fat N_Game = [N_players, N_ground, N_kinds, N_births] := rfl
theorem gf_World : gg.fat N_World = [N_tick, N_seed, N_shared, N_count, N_bodies, N_said] := rfl
theorem gf_Screen : gg.fat N_Screen = [N_played, N_drawing, N_times] := rfl
theorem gs_NoWorld_NoWorld : gg.sub N_NoWorld N_NoWorld = true := rfl
theorem gcls : gg.cls = [N_World, N_Program, N_Ground, N_Kind] := rfl
theorem go_is_integer {n : Nat} {x0 : D} {M : Mem} {Q : DK1} {X : XK1} {hq : Hid Q} {hx : Hid X} : callH (wpF gg fs (n + 1)) F_is_integer [x0] M Q X hq hx = wpSs gg (wpF gg fs n) d_is_integer [some x0] M ⟨fun e m => Q .non (dropE e m []), Q, fun _ _ => False, fun _ _ => False, fun x _ m => X x m⟩ := wpF_go (d := ⟨1, 1, d_is_integer, []⟩) rfl rfl rfl
theorem go_is_within {n : Nat} {x0 x1 x2 : D} {M : Mem} {Q : DK1} {X : XK1} {hq : Hid Q} {hx : Hid X} : callH (wpF gg fs (n + 1)) F_is_within [x0, x1, x2] M Q X hq hx = wpSs gg (wpF gg fs n) d_is_within [some x0, some x1, some x2] M ⟨fun e m => Q .non (dropE e m []), Q, fun _ _ => False, fun _ _ => False, fun x _ m => X x m⟩ := wpF_go (d := ⟨3, 3, d_is_within, []⟩) rfl rfl rfl
theorem go_is_small {n : Nat} {x0 : D} {M : Mem} {Q : DK1} {X : XK1} {hq : Hid Q} {hx : Hid X} : callH (wpF gg fs (n + 1)) F_is_small [x0] M Q X hq hx = wpSs gg (wpF gg fs n) d_is_small [some x0] M ⟨fun e m => Q .non (dropE e m []), Q, fun _ _ => False, fun _ _ => False, fun x _ m => X x m⟩ := wpF_go (d := ⟨1, 1, d_is_small, []⟩) rfl rfl rfl
theorem go_is_below {n : Nat} {x0 x1 : D} {M : Mem} {Q : DK1} {X : XK1} {hq : Hid Q} {hx : Hid X} : callH (wpF gg fs (n + 1)) F_is_below [x0, x1] M Q X hq hx = wpSs gg (wpF gg fs n) d_is_below [some x0, some x1] M ⟨fun e m => Q .non (dropE e m []), Q, fun _ _ => False, fun _ _ => False, fun x _ m => X x m⟩ := wpF_go (d := ⟨2, 2, d_is_below, []⟩) rfl rfl rfl
theorem go_is_sized {n : Nat} {x0 x1 x2 : D} {M : Mem} {Q : DK1} {X : XK1} {hq : Hid Q} {hx : Hid X} : callH (wpF gg fs (n + 1)) F_is_sized [x0, x1, x2] M Q X hq hx = wpSs gg (wpF gg fs n) d_is_sized [some x0, some x1, some x2] M ⟨fun e m => Q .non (dropE e m []), Q, fun _ _ => False, fun _ _ => False, fun x _ m => X x m⟩ := wpF_go (d := ⟨3, 3, d_is_sized, []⟩) rfl rfl rfl
theorem go_are_small {n : Nat} {x0 x1 : D} {M : Mem} {Q : DK1} {X : XK1} {hq : Hid Q} {hx : Hid X} : callH (wpF gg fs (n + 1)) F_are_small [x0, x1] M Q X hq hx = wpSs gg (wpF gg fs n) d_are_small [some x0, some x1, none] M ⟨fun e m => Q .non (dropE e m []), Q, fun _ _ => False, fun _ _ => False, fun x _ m => X x m⟩ := wpF_go (d := ⟨2, 3, d_are_small, []⟩) rfl rfl rfl
theorem go_is_word {n : Nat} {x0 x1 : D} {M : Mem} {Q : DK1} {X : XK1} {hq : Hid Q} {hx : Hid X} : callH (wpF gg fs (n + 1)) F_is_word [x0, x1] M Q X hq hx = wpSs gg (wpF gg fs n) d_is_word [some x0, some x1] M ⟨fun e m => Q .non (dropE e m []), Q, fun _ _ => False, fun _ _ => False, fun x _ m => X x m⟩ := wpF_go (d := ⟨2, 2, d_is_word, []⟩) rfl rfl rfl
theorem go_is_row {n : Nat} {x0 : D} {M : Mem} {Q : DK1} {X : XK1} {hq : Hid Q} {hx : Hid X} : callH (wpF gg fs (n + 1)) F_is_row [x0] M Q X hq hx = wpSs gg (wpF gg fs n) d_is_row [some x0, none] M ⟨fun e m => Q .non (dropE e m []), Q, fun _ _ => False, fun _ _ => False, fun x _ m => X x m⟩ := wpF_go (d := ⟨1, 2, d_is_row, []⟩) rfl rfl rfl
theorem go_spanned {n : Nat} {x0 x1 : D} {M : Mem} {Q : DK1} {X : XK1} {hq : Hid Q} {hx : Hid X} : callH (wpF gg fs (n + 1)) F_spanned [x0, x1] M Q X hq hx = wpSs gg (wpF gg fs n) d_spanned [some x0, some x1] M ⟨fun e m => Q .non (dropE e m []), Q, fun _ _ => False, fun _ _ => False, fun x _ m => X x m⟩ := wpF_go (d := ⟨2, 2, d_spanned, []⟩) rfl rfl rfl
theorem go_opens {n : Nat} {x0 x1 x2 x3 x4 : D} {M : Mem} {Q : DK1} {X : XK1} {hq : Hid Q} {hx : Hid X} : callH (wpF gg fs (n + 1)) F_opens [x0, x1, x2, x3, x4] M Q X hq hx = wpSs gg (wpF gg fs n) d_opens [some x0, some x1, some x2, some x3, some x4, none, none] M ⟨fun e m => Q .non (dropE e m []), Q, fun _ _ => False, fun _ _ => False, fun x _ m => X x m⟩ := wpF_go (d := ⟨5, 7, d_opens, []⟩) rfl rfl rfl
theorem go_shares {n : Nat} {x0 x1 x2 x3 x4 x5 : D} {M : Mem} {Q : DK1} {X : XK1} {hq : Hid Q} {hx : Hid X} : callH (wpF gg fs (n + 1)) F_shares [x0, x1, x2, x3, x4, x5] M Q X hq hx = wpSs gg (wpF gg fs n) d_shares [some x0, some x1, some x2, some x3, some x4, some x5] M ⟨fun e m => Q .non (dropE e m []), Q, fun _ _ => False, fun _ _ => False, fun x _ m => X x m⟩ := wpF_go (d := ⟨6, 6, d_shares, []⟩) rfl rfl rfl
theorem go_is_clear {n : Nat} {x0 x1 x2 x3 x4 x5 : D} {M : Mem} {Q : DK1} {X : XK1} {hq : Hid Q} {hx : Hid X} : callH (wpF gg fs (n + 1)) F_is_clear [x0, x1, x2, x3, x4, x5] M Q X hq hx = wpSs gg (wpF gg fs n) d_is_clear [some x0, some x1, some x2, some x3, some x4, some x5, none, none, none, none] M ⟨fun e m => Q .non (dropE e m []), Q, fun _ _ => False, fun _ _ => False, fun x _ m => X x m⟩ := wpF_go (d := ⟨6, 10, d_is_clear, []⟩) rfl rfl rfl
theorem go_is_birth {n : Nat} {x0 x1 x2 : D} {M : Mem} {Q : DK1} {X : XK1} {hq : Hid Q} {hx : Hid X} : callH (wpF gg fs (n + 1)) F_is_birth [x0, x1, x2] M Q X hq hx = wpSs gg (wpF gg fs n) d_is_birth [some x0, some x1, some x2] M ⟨fun e m => Q .non (dropE e m []), Q, fun _ _ => False, fun _ _ => False, fun x _ m => X x m⟩ := wpF_go (d := ⟨3, 3, d_is_birth, []⟩) rfl rfl rfl
theorem go_is_seed {n : Nat} {x0 : D} {M : Mem} {Q : DK1} {X : XK1} {hq : Hid Q} {hx : Hid X} : callH (wpF gg fs (n + 1)) F_is_seed [x0] M Q X hq hx = wpSs gg (wpF gg fs n) d_is_seed [some x0] M ⟨fun e m => Q .non (dropE e m []), Q, fun _ _ => False, fun _ _ => False, fun x _ m => X x m⟩ := wpF_go (d := ⟨1, 1, d_is_seed, []⟩) rfl rfl rfl
theorem go_is_speed {n : Nat} {x0 : D} {M : Mem} {Q : DK1} {X : XK1} {hq : Hid Q} {hx : Hid X} : callH (wpF gg fs (n + 1)) F_is_speed [x0] M Q X hq hx = wpSs gg (wpF gg fs n) d_is_speed [some x0] M ⟨fun e m => Q .non (dropE e m []), Q, fun _ _ => False, fun _ _ => False, fun x _ m => X x m⟩ := wpF_go (d := ⟨1, 1, d_is_speed, []⟩) rfl rfl rfl
theorem go_is_body {n : Nat} {x0 x1 x2 : D} {M : Mem} {Q : DK1} {X : XK1} {hq : Hid Q} {hx : Hid X} : callH (wpF gg fs (n + 1)) F_is_body [x0, x1, x2] M Q X hq hx = wpSs gg (wpF gg fs n) d_is_body [some x0, some x1, some x2] M ⟨fun e m => Q .non (dropE e m []), Q, fun _ _ => False, fun _ _ => False, fun x _ m => X x m⟩ := wpF_go (d := ⟨3, 3, d_is_body, []⟩) rfl rfl rfl
theorem go_are_bodies {n : Nat} {x0 x1 x2 : D} {M : Mem} {Q : DK1} {X : XK1} {hq : Hid Q} {hx : Hid X} : callH (wpF gg fs (n + 1)) F_are_bodies [x0, x1, x2] M Q X hq hx = wpSs gg (wpF gg fs n) d_are_bodies [some x0, some x1, some x2, none, none, none, none, none, none, none, none] M ⟨fun e m => Q .non (dropE e m []), Q, fun _ _ => False, fun _ _ => False, fun x _ m => X x m⟩ := wpF_go (d := ⟨3, 11, d_are_bodies, []⟩) rfl rfl rfl
theorem go_fits {n : Nat} {x0 x1 : D} {M : Mem} {Q : DK1} {X : XK1} {hq : Hid Q} {hx : Hid X} : callH (wpF gg fs (n + 1)) F_fits [x0, x1] M Q X hq hx = wpSs gg (wpF gg fs n) d_fits [some x0, some x1, none] M ⟨fun e m => Q .non (dropE e m []), Q, fun _ _ => False, fun _ _ => False, fun x _ m => X x m⟩ := wpF_go (d := ⟨2, 3, d_fits, []⟩) rfl rfl rfl
theorem go_check_world {n : Nat} {x0 x1 : D} {M : Mem} {Q : DK1} {X : XK1} {hq : Hid Q} {hx : Hid X} : callH (wpF gg fs (n + 1)) F_check_world [x0, x1] M Q X hq hx = wpSs gg (wpF gg fs n) d_check_world [some x0, some x1] M ⟨fun e m => Q .non (dropE e m []), Q, fun _ _ => False, fun _ _ => False, fun x _ m => X x m⟩ := wpF_go (d := ⟨2, 2, d_check_world, []⟩) rfl rfl rfl
theorem go_rows_of {n : Nat} {x0 : D} {M : Mem} {Q : DK1} {X : XK1} {hq : Hid Q} {hx : Hid X} : callH (wpF gg fs (n + 1)) F_rows_of [x0] M Q X hq hx = wpSs gg (wpF gg fs n) d_rows_of [some x0] M ⟨fun e m => Q .non (dropE e m []), Q, fun _ _ => False, fun _ _ => False, fun x _ m => X x m⟩ := wpF_go (d := ⟨1, 1, d_rows_of, []⟩) rfl rfl rfl
theorem go_text_of_rows {n : Nat} {x0 : D} {M : Mem} {Q : DK1} {X : XK1} {hq : Hid Q} {hx : Hid X} : callH (wpF gg fs (n + 1)) F_text_of_rows [x0] M Q X hq hx = wpSs gg (wpF gg fs n) d_text_of_rows [some x0, none] M ⟨fun e m => Q .non (dropE e m []), Q, fun _ _ => False, fun _ _ => False, fun x _ m => X x m⟩ := wpF_go (d := ⟨1, 2, d_text_of_rows, []⟩) rfl rfl rfl
theorem go_ground_picture {n : Nat} {x0 : D} {M : Mem} {Q : DK1} {X : XK1} {hq : Hid Q} {hx : Hid X} : callH (wpF gg fs (n + 1)) F_ground_picture [x0] M Q X hq hx = wpSs gg (wpF gg fs n) d_ground_picture [some x0] M ⟨fun e m => Q .non (dropE e m []), Q, fun _ _ => False, fun _ _ => False, fun x _ m => X x m⟩ := wpF_go (d := ⟨1, 1, d_ground_picture, []⟩) rfl rfl rfl
theorem go_letter_of_body {n : Nat} {x0 : D} {M : Mem} {Q : DK1} {X : XK1} {hq : Hid Q} {hx : Hid X} : callH (wpF gg fs (n + 1)) F_letter_of_body [x0] M Q X hq hx = wpSs gg (wpF gg fs n) d_letter_of_body [some x0, none] M ⟨fun e m => Q .non (dropE e m []), Q, fun _ _ => False, fun _ _ => False, fun x _ m => X x m⟩ := wpF_go (d := ⟨1, 2, d_letter_of_body, []⟩) rfl rfl rfl
theorem go_picture_of {n : Nat} {x0 x1 : D} {M : Mem} {Q : DK1} {X : XK1} {hq : Hid Q} {hx : Hid X} : callH (wpF gg fs (n + 1)) F_picture_of [x0, x1] M Q X hq hx = wpSs gg (wpF gg fs n) d_picture_of [some x0, some x1, none, none, none, none, none, none] M ⟨fun e m => Q .non (dropE e m [2]), Q, fun _ _ => False, fun _ _ => False, fun x _ m => X x m⟩ := wpF_go (d := ⟨2, 8, d_picture_of, [2]⟩) rfl rfl rfl
theorem go_drawn {n : Nat} {x0 x1 : D} {M : Mem} {Q : DK1} {X : XK1} {hq : Hid Q} {hx : Hid X} : callH (wpF gg fs (n + 1)) F_drawn [x0, x1] M Q X hq hx = wpSs gg (wpF gg fs n) d_drawn [some x0, some x1] M ⟨fun e m => Q .non (dropE e m []), Q, fun _ _ => False, fun _ _ => False, fun x _ m => X x m⟩ := wpF_go (d := ⟨2, 2, d_drawn, []⟩) rfl rfl rfl
theorem go_changes_between {n : Nat} {x0 x1 : D} {M : Mem} {Q : DK1} {X : XK1} {hq : Hid Q} {hx : Hid X} : callH (wpF gg fs (n + 1)) F_changes_between [x0, x1] M Q X hq hx = wpSs gg (wpF gg fs n) d_changes_between [some x0, some x1, none, none, none, none, none, none] M ⟨fun e m => Q .non (dropE e m [2]), Q, fun _ _ => False, fun _ _ => False, fun x _ m => X x m⟩ := wpF_go (d := ⟨2, 8, d_changes_between, [2]⟩) rfl rfl rfl
theorem go_body_line {n : Nat} {x0 : D} {M : Mem} {Q : DK1} {X : XK1} {hq : Hid Q} {hx : Hid X} : callH (wpF gg fs (n + 1)) F_body_line [x0] M Q X hq hx = wpSs gg (wpF gg fs n) d_body_line [some x0, none] M ⟨fun e m => Q .non (dropE e m []), Q, fun _ _ => False, fun _ _ => False, fun x _ m => X x m⟩ := wpF_go (d := ⟨1, 2, d_body_line, []⟩) rfl rfl rfl
theorem go_lines_of_bodies {n : Nat} {x0 : D} {M : Mem} {Q : DK1} {X : XK1} {hq : Hid Q} {hx : Hid X} : callH (wpF gg fs (n + 1)) F_lines_of_bodies [x0] M Q X hq hx = wpSs gg (wpF gg fs n) d_lines_of_bodies [some x0, none] M ⟨fun e m => Q .non (dropE e m []), Q, fun _ _ => False, fun _ _ => False, fun x _ m => X x m⟩ := wpF_go (d := ⟨1, 2, d_lines_of_bodies, []⟩) rfl rfl rfl
theorem go_body_lines {n : Nat} {x0 x1 : D} {M : Mem} {Q : DK1} {X : XK1} {hq : Hid Q} {hx : Hid X} : callH (wpF gg fs (n + 1)) F_body_lines [x0, x1] M Q X hq hx = wpSs gg (wpF gg fs n) d_body_lines [some x0, some x1] M ⟨fun e m => Q .non (dropE e m []), Q, fun _ _ => False, fun _ _ => False, fun x _ m => X x m⟩ := wpF_go (d := ⟨2, 2, d_body_lines, []⟩) rfl rfl rfl
theorem go_law_hand {n : Nat} {x0 : D} {M : Mem} {Q : DK1} {X : XK1} {hq : Hid Q} {hx : Hid X} : callH (wpF gg fs (n + 1)) F_law_hand [x0] M Q X hq hx = wpSs gg (wpF gg fs n) d_law_hand [some x0] M ⟨fun e m => Q .non (dropE e m []), Q, fun _ _ => False, fun _ _ => False, fun x _ m => X x m⟩ := wpF_go (d := ⟨1, 1, d_law_hand, []⟩) rfl rfl rfl
theorem go_law_take {n : Nat} {x0 x1 : D} {M : Mem} {Q : DK1} {X : XK1} {hq : Hid Q} {hx : Hid X} : callH (wpF gg fs (n + 1)) F_law_take [x0, x1] M Q X hq hx = wpSs gg (wpF gg fs n) d_law_take [some x0, some x1, none, none, none] M ⟨fun e m => Q .non (dropE e m []), Q, fun _ _ => False, fun _ _ => False, fun x _ m => X x m⟩ := wpF_go (d := ⟨2, 5, d_law_take, []⟩) rfl rfl rfl
theorem go_law_pick {n : Nat} {x0 x1 : D} {M : Mem} {Q : DK1} {X : XK1} {hq : Hid Q} {hx : Hid X} : callH (wpF gg fs (n + 1)) F_law_pick [x0, x1] M Q X hq hx = wpSs gg (wpF gg fs n) d_law_pick [some x0, some x1] M ⟨fun e m => Q .non (dropE e m []), Q, fun _ _ => False, fun _ _ => False, fun x _ m => X x m⟩ := wpF_go (d := ⟨2, 2, d_law_pick, []⟩) rfl rfl rfl
theorem go_law_wide {n : Nat} {x0 : D} {M : Mem} {Q : DK1} {X : XK1} {hq : Hid Q} {hx : Hid X} : callH (wpF gg fs (n + 1)) F_law_wide [x0] M Q X hq hx = wpSs gg (wpF gg fs n) d_law_wide [some x0] M ⟨fun e m => Q .non (dropE e m []), Q, fun _ _ => False, fun _ _ => False, fun x _ m => X x m⟩ := wpF_go (d := ⟨1, 1, d_law_wide, []⟩) rfl rfl rfl
theorem go_law_small {n : Nat} {x0 : D} {M : Mem} {Q : DK1} {X : XK1} {hq : Hid Q} {hx : Hid X} : callH (wpF gg fs (n + 1)) F_law_small [x0] M Q X hq hx = wpSs gg (wpF gg fs n) d_law_small [some x0, none] M ⟨fun e m => Q .non (dropE e m []), Q, fun _ _ => False, fun _ _ => False, fun x _ m => X x m⟩ := wpF_go (d := ⟨1, 2, d_law_small, []⟩) rfl rfl rfl
theorem go_law_seed {n : Nat} {x0 : D} {M : Mem} {Q : DK1} {X : XK1} {hq : Hid Q} {hx : Hid X} : callH (wpF gg fs (n + 1)) F_law_seed [x0] M Q X hq hx = wpSs gg (wpF gg fs n) d_law_seed [some x0] M ⟨fun e m => Q .non (dropE e m []), Q, fun _ _ => False, fun _ _ => False, fun x _ m => X x m⟩ := wpF_go (d := ⟨1, 1, d_law_seed, []⟩) rfl rfl rfl
theorem go_law_is_integer {n : Nat} {x0 : D} {M : Mem} {Q : DK1} {X : XK1} {hq : Hid Q} {hx : Hid X} : callH (wpF gg fs (n + 1)) F_law_is_integer [x0] M Q X hq hx = wpSs gg (wpF gg fs n) d_law_is_integer [some x0] M ⟨fun e m => Q .non (dropE e m []), Q, fun _ _ => False, fun _ _ => False, fun x _ m => X x m⟩ := wpF_go (d := ⟨1, 1, d_law_is_integer, []⟩) rfl rfl rfl
theorem go_law_same {n : Nat} {x0 x1 : D} {M : Mem} {Q : DK1} {X : XK1} {hq : Hid Q} {hx : Hid X} : callH (wpF gg fs (n + 1)) F_law_same [x0, x1] M Q X hq hx = wpSs gg (wpF gg fs n) d_law_same [some x0, some x1, none, none] M ⟨fun e m => Q .non (dropE e m []), Q, fun _ _ => False, fun _ _ => False, fun x _ m => X x m⟩ := wpF_go (d := ⟨2, 4, d_law_same, []⟩) rfl rfl rfl
theorem go_law_odd {n : Nat} {x0 : D} {M : Mem} {Q : DK1} {X : XK1} {hq : Hid Q} {hx : Hid X} : callH (wpF gg fs (n + 1)) F_law_odd [x0] M Q X hq hx = wpSs gg (wpF gg fs n) d_law_odd [some x0, none] M ⟨fun e m => Q .non (dropE e m []), Q, fun _ _ => False, fun _ _ => False, fun x _ m => X x m⟩ := wpF_go (d := ⟨1, 2, d_law_odd, []⟩) rfl rfl rfl
theorem go_law_ground_sign {n : Nat} {x0 x1 : D} {M : Mem} {Q : DK1} {X : XK1} {hq : Hid Q} {hx : Hid X} : callH (wpF gg fs (n + 1)) F_law_ground_sign [x0, x1] M Q X hq hx = wpSs gg (wpF gg fs n) d_law_ground_sign [some x0, some x1, none] M ⟨fun e m => Q .non (dropE e m []), Q, fun _ _ => False, fun _ _ => False, fun x _ m => X x m⟩ := wpF_go (d := ⟨2, 3, d_law_ground_sign, []⟩) rfl rfl rfl
theorem go_law_rows {n : Nat} {x0 x1 x2 : D} {M : Mem} {Q : DK1} {X : XK1} {hq : Hid Q} {hx : Hid X} : callH (wpF gg fs (n + 1)) F_law_rows [x0, x1, x2] M Q X hq hx = wpSs gg (wpF gg fs n) d_law_rows [some x0, some x1, some x2, none, none, none, none] M ⟨fun e m => Q .non (dropE e m [4]), Q, fun _ _ => False, fun _ _ => False, fun x _ m => X x m⟩ := wpF_go (d := ⟨3, 7, d_law_rows, [4]⟩) rfl rfl rfl
theorem go_law_ground {n : Nat} {x0 : D} {M : Mem} {Q : DK1} {X : XK1} {hq : Hid Q} {hx : Hid X} : callH (wpF gg fs (n + 1)) F_law_ground [x0] M Q X hq hx = wpSs gg (wpF gg fs n) d_law_ground [some x0, none] M ⟨fun e m => Q .non (dropE e m []), Q, fun _ _ => False, fun _ _ => False, fun x _ m => X x m⟩ := wpF_go (d := ⟨1, 2, d_law_ground, []⟩) rfl rfl rfl
theorem go_law_sign {n : Nat} {x0 x1 x2 : D} {M : Mem} {Q : DK1} {X : XK1} {hq : Hid Q} {hx : Hid X} : callH (wpF gg fs (n + 1)) F_law_sign [x0, x1, x2] M Q X hq hx = wpSs gg (wpF gg fs n) d_law_sign [some x0, some x1, some x2] M ⟨fun e m => Q .non (dropE e m []), Q, fun _ _ => False, fun _ _ => False, fun x _ m => X x m⟩ := wpF_go (d := ⟨3, 3, d_law_sign, []⟩) rfl rfl rfl
theorem go_law_spots {n : Nat} {x0 x1 : D} {M : Mem} {Q : DK1} {X : XK1} {hq : Hid Q} {hx : Hid X} : callH (wpF gg fs (n + 1)) F_law_spots [x0, x1] M Q X hq hx = wpSs gg (wpF gg fs n) d_law_spots [some x0, some x1, none] M ⟨fun e m => Q .non (dropE e m []), Q, fun _ _ => False, fun _ _ => False, fun x _ m => X x m⟩ := wpF_go (d := ⟨2, 3, d_law_spots, []⟩) rfl rfl rfl
theorem go_law_open {n : Nat} {x0 x1 x2 x3 x4 : D} {M : Mem} {Q : DK1} {X : XK1} {hq : Hid Q} {hx : Hid X} : callH (wpF gg fs (n + 1)) F_law_open [x0, x1, x2, x3, x4] M Q X hq hx = wpSs gg (wpF gg fs n) d_law_open [some x0, some x1, some x2, some x3, some x4, none, none] M ⟨fun e m => Q .non (dropE e m []), Q, fun _ _ => False, fun _ _ => False, fun x _ m => X x m⟩ := wpF_go (d := ⟨5, 7, d_law_open, []⟩) rfl rfl rfl
theorem go_law_common {n : Nat} {x0 x1 x2 : D} {M : Mem} {Q : DK1} {X : XK1} {hq : Hid Q} {hx : Hid X} : callH (wpF gg fs (n + 1)) F_law_common [x0, x1, x2] M Q X hq hx = wpSs gg (wpF gg fs n) d_law_common [some x0, some x1, some x2, none, none] M ⟨fun e m => Q .non (dropE e m []), Q, fun _ _ => False, fun _ _ => False, fun x _ m => X x m⟩ := wpF_go (d := ⟨3, 5, d_law_common, []⟩) rfl rfl rfl
theorem go_law_clear {n : Nat} {x0 x1 x2 x3 x4 x5 : D} {M : Mem} {Q : DK1} {X : XK1} {hq : Hid Q} {hx : Hid X} : callH (wpF gg fs (n + 1)) F_law_clear [x0, x1, x2, x3, x4, x5] M Q X hq hx = wpSs gg (wpF gg fs n) d_law_clear [some x0, some x1, some x2, some x3, some x4, some x5, none] M ⟨fun e m => Q .non (dropE e m []), Q, fun _ _ => False, fun _ _ => False, fun x _ m => X x m⟩ := wpF_go (d := ⟨6, 7, d_law_clear, []⟩) rfl rfl rfl
theorem go_law_kind {n : Nat} {x0 : D} {M : Mem} {Q : DK1} {X : XK1} {hq : Hid Q} {hx : Hid X} : callH (wpF gg fs (n + 1)) F_law_kind [x0] M Q X hq hx = wpSs gg (wpF gg fs n) d_law_kind [some x0, none, none, none] M ⟨fun e m => Q .non (dropE e m []), Q, fun _ _ => False, fun _ _ => False, fun x _ m => X x m⟩ := wpF_go (d := ⟨1, 4, d_law_kind, []⟩) rfl rfl rfl
theorem go_law_kinds {n : Nat} {x0 : D} {M : Mem} {Q : DK1} {X : XK1} {hq : Hid Q} {hx : Hid X} : callH (wpF gg fs (n + 1)) F_law_kinds [x0] M Q X hq hx = wpSs gg (wpF gg fs n) d_law_kinds [some x0, none, none] M ⟨fun e m => Q .non (dropE e m []), Q, fun _ _ => False, fun _ _ => False, fun x _ m => X x m⟩ := wpF_go (d := ⟨1, 3, d_law_kinds, []⟩) rfl rfl rfl
theorem go_law_place {n : Nat} {x0 x1 x2 x3 x4 : D} {M : Mem} {Q : DK1} {X : XK1} {hq : Hid Q} {hx : Hid X} : callH (wpF gg fs (n + 1)) F_law_place [x0, x1, x2, x3, x4] M Q X hq hx = wpSs gg (wpF gg fs n) d_law_place [some x0, some x1, some x2, some x3, some x4, none, none, none, none, none] M ⟨fun e m => Q .non (dropE e m []), Q, fun _ _ => False, fun _ _ => False, fun x _ m => X x m⟩ := wpF_go (d := ⟨5, 10, d_law_place, []⟩) rfl rfl rfl
theorem go_law_placed {n : Nat} {x0 x1 x2 x3 : D} {M : Mem} {Q : DK1} {X : XK1} {hq : Hid Q} {hx : Hid X} : callH (wpF gg fs (n + 1)) F_law_placed [x0, x1, x2, x3] M Q X hq hx = wpSs gg (wpF gg fs n) d_law_placed [some x0, some x1, some x2, some x3, none, none, none, none, none, none] M ⟨fun e m => Q .non (dropE e m [4]), Q, fun _ _ => False, fun _ _ => False, fun x _ m => X x m⟩ := wpF_go (d := ⟨4, 10, d_law_placed, [4]⟩) rfl rfl rfl
theorem go_law_speed {n : Nat} {x0 : D} {M : Mem} {Q : DK1} {X : XK1} {hq : Hid Q} {hx : Hid X} : callH (wpF gg fs (n + 1)) F_law_speed [x0] M Q X hq hx = wpSs gg (wpF gg fs n) d_law_speed [some x0, none] M ⟨fun e m => Q .non (dropE e m []), Q, fun _ _ => False, fun _ _ => False, fun x _ m => X x m⟩ := wpF_go (d := ⟨1, 2, d_law_speed, []⟩) rfl rfl rfl
theorem go_law_bodies {n : Nat} {x0 x1 x2 x3 x4 : D} {M : Mem} {Q : DK1} {X : XK1} {hq : Hid Q} {hx : Hid X} : callH (wpF gg fs (n + 1)) F_law_bodies [x0, x1, x2, x3, x4] M Q X hq hx = wpSs gg (wpF gg fs n) d_law_bodies [some x0, some x1, some x2, some x3, some x4, none, none, none, none, none, none, none, none, none, none] M ⟨fun e m => Q .non (dropE e m [5]), Q, fun _ _ => False, fun _ _ => False, fun x _ m => X x m⟩ := wpF_go (d := ⟨5, 15, d_law_bodies, [5]⟩) rfl rfl rfl
theorem go_law_count_of {n : Nat} {x0 x1 : D} {M : Mem} {Q : DK1} {X : XK1} {hq : Hid Q} {hx : Hid X} : callH (wpF gg fs (n + 1)) F_law_count_of [x0, x1] M Q X hq hx = wpSs gg (wpF gg fs n) d_law_count_of [some x0, some x1, none] M ⟨fun e m => Q .non (dropE e m []), Q, fun _ _ => False, fun _ _ => False, fun x _ m => X x m⟩ := wpF_go (d := ⟨2, 3, d_law_count_of, []⟩) rfl rfl rfl
theorem go_law_tick {n : Nat} {x0 : D} {M : Mem} {Q : DK1} {X : XK1} {hq : Hid Q} {hx : Hid X} : callH (wpF gg fs (n + 1)) F_law_tick [x0] M Q X hq hx = wpSs gg (wpF gg fs n) d_law_tick [some x0] M ⟨fun e m => Q .non (dropE e m []), Q, fun _ _ => False, fun _ _ => False, fun x _ m => X x m⟩ := wpF_go (d := ⟨1, 1, d_law_tick, []⟩) rfl rfl rfl
theorem go_law_said {n : Nat} {x0 : D} {M : Mem} {Q : DK1} {X : XK1} {hq : Hid Q} {hx : Hid X} : callH (wpF gg fs (n + 1)) F_law_said [x0] M Q X hq hx = wpSs gg (wpF gg fs n) d_law_said [some x0, none] M ⟨fun e m => Q .non (dropE e m []), Q, fun _ _ => False, fun _ _ => False, fun x _ m => X x m⟩ := wpF_go (d := ⟨1, 2, d_law_said, []⟩) rfl rfl rfl
theorem go_law_parts {n : Nat} {x0 x1 x2 x3 x4 : D} {M : Mem} {Q : DK1} {X : XK1} {hq : Hid Q} {hx : Hid X} : callH (wpF gg fs (n + 1)) F_law_parts [x0, x1, x2, x3, x4] M Q X hq hx = wpSs gg (wpF gg fs n) d_law_parts [some x0, some x1, some x2, some x3, some x4, none, none, none, none, none, none] M ⟨fun e m => Q .non (dropE e m []), Q, fun _ _ => False, fun _ _ => False, fun x _ m => X x m⟩ := wpF_go (d := ⟨5, 11, d_law_parts, []⟩) rfl rfl rfl
theorem go_law_world_of {n : Nat} {x0 : D} {M : Mem} {Q : DK1} {X : XK1} {hq : Hid Q} {hx : Hid X} : callH (wpF gg fs (n + 1)) F_law_world_of [x0] M Q X hq hx = wpSs gg (wpF gg fs n) d_law_world_of [some x0] M ⟨fun e m => Q .non (dropE e m []), Q, fun _ _ => False, fun _ _ => False, fun x _ m => X x m⟩ := wpF_go (d := ⟨1, 1, d_law_world_of, []⟩) rfl rfl rfl
theorem go_law_program_of {n : Nat} {x0 : D} {M : Mem} {Q : DK1} {X : XK1} {hq : Hid Q} {hx : Hid X} : callH (wpF gg fs (n + 1)) F_law_program_of [x0] M Q X hq hx = wpSs gg (wpF gg fs n) d_law_program_of [some x0] M ⟨fun e m => Q .non (dropE e m []), Q, fun _ _ => False, fun _ _ => False, fun x _ m => X x m⟩ := wpF_go (d := ⟨1, 1, d_law_program_of, []⟩) rfl rfl rfl
theorem go_law_kind_of {n : Nat} {x0 : D} {M : Mem} {Q : DK1} {X : XK1} {hq : Hid Q} {hx : Hid X} : callH (wpF gg fs (n + 1)) F_law_kind_of [x0] M Q X hq hx = wpSs gg (wpF gg fs n) d_law_kind_of [some x0] M ⟨fun e m => Q .non (dropE e m []), Q, fun _ _ => False, fun _ _ => False, fun x _ m => X x m⟩ := wpF_go (d := ⟨1, 1, d_law_kind_of, []⟩) rfl rfl rfl
theorem go_law_game_of {n : Nat} {x0 x1 x2 x3 : D} {M : Mem} {Q : DK1} {X : XK1} {hq : Hid Q} {hx : Hid X} : callH (wpF gg fs (n + 1)) F_law_game_of [x0, x1, x2, x3] M Q X hq hx = wpSs gg (wpF gg fs n) d_law_game_of [some x0, some x1, some x2, some x3, none] M ⟨fun e m => Q .non (dropE e m []), Q, fun _ _ => False, fun _ _ => False, fun x _ m => X x m⟩ := wpF_go (d := ⟨4, 5, d_law_game_of, []⟩) rfl rfl rfl
theorem go_law_closed {n : Nat} {x0 : D} {M : Mem} {Q : DK1} {X : XK1} {hq : Hid Q} {hx : Hid X} : callH (wpF gg fs (n + 1)) F_law_closed [x0] M Q X hq hx = wpSs gg (wpF gg fs n) d_law_closed [some x0, none] M ⟨fun e m => Q .non (dropE e m []), Q, fun _ _ => False, fun _ _ => False, fun x _ m => X x m⟩ := wpF_go (d := ⟨1, 2, d_law_closed, []⟩) rfl rfl rfl
theorem go_law_shown_sign {n : Nat} {x0 x1 x2 x3 x4 : D} {M : Mem} {Q : DK1} {X : XK1} {hq : Hid Q} {hx : Hid X} : callH (wpF gg fs (n + 1)) F_law_shown_sign [x0, x1, x2, x3, x4] M Q X hq hx = wpSs gg (wpF gg fs n) d_law_shown_sign [some x0, some x1, some x2, some x3, some x4, none] M ⟨fun e m => Q .non (dropE e m []), Q, fun _ _ => False, fun _ _ => False, fun x _ m => X x m⟩ := wpF_go (d := ⟨5, 6, d_law_shown_sign, []⟩) rfl rfl rfl
theorem go_law_shown {n : Nat} {x0 x1 x2 : D} {M : Mem} {Q : DK1} {X : XK1} {hq : Hid Q} {hx : Hid X} : callH (wpF gg fs (n + 1)) F_law_shown [x0, x1, x2] M Q X hq hx = wpSs gg (wpF gg fs n) d_law_shown [some x0, some x1, some x2, none, none, none] M ⟨fun e m => Q .non (dropE e m []), Q, fun _ _ => False, fun _ _ => False, fun x _ m => X x m⟩ := wpF_go (d := ⟨3, 6, d_law_shown, []⟩) rfl rfl rfl
theorem go_law_differences {n : Nat} {x0 x1 x2 : D} {M : Mem} {Q : DK1} {X : XK1} {hq : Hid Q} {hx : Hid X} : callH (wpF gg fs (n + 1)) F_law_differences [x0, x1, x2] M Q X hq hx = wpSs gg (wpF gg fs n) d_law_differences [some x0, some x1, some x2, none, none] M ⟨fun e m => Q .non (dropE e m [3]), Q, fun _ _ => False, fun _ _ => False, fun x _ m => X x m⟩ := wpF_go (d := ⟨3, 5, d_law_differences, [3]⟩) rfl rfl rfl
theorem go_law_bodies_text {n : Nat} {x0 : D} {M : Mem} {Q : DK1} {X : XK1} {hq : Hid Q} {hx : Hid X} : callH (wpF gg fs (n + 1)) F_law_bodies_text [x0] M Q X hq hx = wpSs gg (wpF gg fs n) d_law_bodies_text [some x0, none, none, none] M ⟨fun e m => Q .non (dropE e m []), Q, fun _ _ => False, fun _ _ => False, fun x _ m => X x m⟩ := wpF_go (d := ⟨1, 4, d_law_bodies_text, []⟩) rfl rfl rfl
theorem go_law_show {n : Nat} {x0 x1 : D} {M : Mem} {Q : DK1} {X : XK1} {hq : Hid Q} {hx : Hid X} : callH (wpF gg fs (n + 1)) F_law_show [x0, x1] M Q X hq hx = wpSs gg (wpF gg fs n) d_law_show [some x0, some x1] M ⟨fun e m => Q .non (dropE e m []), Q, fun _ _ => False, fun _ _ => False, fun x _ m => X x m⟩ := wpF_go (d := ⟨2, 2, d_law_show, []⟩) rfl rfl rfl
theorem go_law_lines_told {n : Nat} {x0 x1 : D} {M : Mem} {Q : DK1} {X : XK1} {hq : Hid Q} {hx : Hid X} : callH (wpF gg fs (n + 1)) F_law_lines_told [x0, x1] M Q X hq hx = wpSs gg (wpF gg fs n) d_law_lines_told [some x0, some x1] M ⟨fun e m => Q .non (dropE e m []), Q, fun _ _ => False, fun _ _ => False, fun x _ m => X x m⟩ := wpF_go (d := ⟨2, 2, d_law_lines_told, []⟩) rfl rfl rfl
theorem go_law {n : Nat} {x0 : D} {M : Mem} {Q : DK1} {X : XK1} {hq : Hid Q} {hx : Hid X} : callH (wpF gg fs (n + 1)) F_law [x0] M Q X hq hx = wpSs gg (wpF gg fs n) d_law [some x0, none, none, none, none, none, none, none, none, none, none, none, none, none, none, none, none, none, none] M ⟨fun e m => Q .non (dropE e m []), Q, fun _ _ => False, fun _ _ => False, fun x _ m => X x m⟩ := wpF_go (d := ⟨1, 19, d_law, []⟩) rfl rfl rfl
theorem go_Ground_init {n : Nat} {x0 x1 : D} {M : Mem} {Q : DK1} {X : XK1} {hq : Hid Q} {hx : Hid X} : callH (wpF gg fs (n + 1)) F_Ground_init [x0, x1] M Q X hq hx = wpSs gg (wpF gg fs n) d_Ground_init [some x0, some x1, none, none] M ⟨fun e m => Q .non (dropE e m []), Q, fun _ _ => False, fun _ _ => False, fun x _ m => X x m⟩ := wpF_go (d := ⟨2, 4, d_Ground_init, []⟩) rfl rfl rfl
theorem go_Kind_init {n : Nat} {x0 x1 x2 x3 x4 x5 : D} {M : Mem} {Q : DK1} {X : XK1} {hq : Hid Q} {hx : Hid X} : callH (wpF gg fs (n + 1)) F_Kind_init [x0, x1, x2, x3, x4, x5] M Q X hq hx = wpSs gg (wpF gg fs n) d_Kind_init [some x0, some x1, some x2, some x3, some x4, some x5] M ⟨fun e m => Q .non (dropE e m []), Q, fun _ _ => False, fun _ _ => False, fun x _ m => X x m⟩ := wpF_go (d := ⟨6, 6, d_Kind_init, []⟩) rfl rfl rfl
theorem go_Game_init {n : Nat} {x0 x1 x2 x3 x4 : D} {M : Mem} {Q : DK1} {X : XK1} {hq : Hid Q} {hx : Hid X} : callH (wpF gg fs (n + 1)) F_Game_init [x0, x1, x2, x3, x4] M Q X hq hx = wpSs gg (wpF gg fs n) d_Game_init [some x0, some x1, some x2, some x3, some x4, none, none, none, none] M ⟨fun e m => Q .non (dropE e m [5]), Q, fun _ _ => False, fun _ _ => False, fun x _ m => X x m⟩ := wpF_go (d := ⟨5, 9, d_Game_init, [5]⟩) rfl rfl rfl
theorem go_World_init {n : Nat} {x0 x1 x2 x3 x4 x5 x6 : D} {M : Mem} {Q : DK1} {X : XK1} {hq : Hid Q} {hx : Hid X} : callH (wpF gg fs (n + 1)) F_World_init [x0, x1, x2, x3, x4, x5, x6] M Q X hq hx = wpSs gg (wpF gg fs n) d_World_init [some x0, some x1, some x2, some x3, some x4, some x5, some x6] M ⟨fun e m => Q .non (dropE e m []), Q, fun _ _ => False, fun _ _ => False, fun x _ m => X x m⟩ := wpF_go (d := ⟨7, 7, d_World_init, []⟩) rfl rfl rfl
theorem go_Screen_init {n : Nat} {x0 x1 : D} {M : Mem} {Q : DK1} {X : XK1} {hq : Hid Q} {hx : Hid X} : callH (wpF gg fs (n + 1)) F_Screen_init [x0, x1] M Q X hq hx = wpSs gg (wpF gg fs n) d_Screen_init [some x0, some x1] M ⟨fun e m => Q .non (dropE e m []), Q, fun _ _ => False, fun _ _ => False, fun x _ m => X x m⟩ := wpF_go (d := ⟨2, 2, d_Screen_init, []⟩) rfl rfl rfl
theorem go_Screen_show {n : Nat} {x0 x1 : D} {M : Mem} {Q : DK1} {X : XK1} {hq : Hid Q} {hx : Hid X} : callH (wpF gg fs (n + 1)) F_Screen_show [x0, x1] M Q X hq hx = wpSs gg (wpF gg fs n) d_Screen_show [some x0, some x1, none, none] M ⟨fun e m => Q .non (dropE e m []), Q, fun _ _ => False, fun _ _ => False, fun x _ m => X x m⟩ := wpF_go (d := ⟨2, 4, d_Screen_show, []⟩) rfl rfl rfl
theorem go_Screen_picture {n : Nat} {x0 : D} {M : Mem} {Q : DK1} {X : XK1} {hq : Hid Q} {hx : Hid X} : callH (wpF gg fs (n + 1)) F_Screen_picture [x0] M Q X hq hx = wpSs gg (wpF gg fs n) d_Screen_picture [some x0] M ⟨fun e m => Q .non (dropE e m []), Q, fun _ _ => False, fun _ _ => False, fun x _ m => X x m⟩ := wpF_go (d := ⟨1, 1, d_Screen_picture, []⟩) rfl rfl rfl
theorem go_Screen_shown {n : Nat} {x0 : D} {M : Mem} {Q : DK1} {X : XK1} {hq : Hid Q} {hx : Hid X} : callH (wpF gg fs (n + 1)) F_Screen_shown [x0] M Q X hq hx = wpSs gg (wpF gg fs n) d_Screen_shown [some x0] M ⟨fun e m => Q .non (dropE e m []), Q, fun _ _ => False, fun _ _ => False, fun x _ m => X x m⟩ := wpF_go (d := ⟨1, 1, d_Screen_shown, []⟩) rfl rfl rfl
theorem bd0 : BindP dd0 := fun _ _ _ _ _ _ us hl => match us, hl with | [_], _ => rfl
theorem bd1 : BindP dd1 := fun _ _ _ _ _ _ us hl => match us, hl with | [_, _, _], _ => rfl
theorem bd2 : BindP dd2 := fun _ _ _ _ _ _ us hl => match us, hl with | [_], _ => rfl
theorem bd3 : BindP dd3 := fun _ _ _ _ _ _ us hl => match us, hl with | [_, _], _ => rfl
theorem bd4 : BindP dd4 := fun _ _ _ _ _ _ us hl => match us, hl with | [_, _, _], _ => rfl
theorem bd5 : BindP dd5 := fun _ _ _ _ _ _ us hl => match us, hl with | [_, _], _ => rfl
theorem bd6 : BindP dd6 := fun _ _ _ _ _ _ us hl => match us, hl with | [_, _], _ => rfl
theorem bd7 : BindP dd7 := fun _ _ _ _ _ _ us hl => match us, hl with | [_], _ => rfl
theorem bd8 : BindP dd8 := fun _ _ _ _ _ _ us hl => match us, hl with | [_, _], _ => rfl
theorem bd9 : BindP dd9 := fun _ _ _ _ _ _ us hl => match us, hl with | [_, _, _, _, _], _ => rfl
theorem bd10 : BindP dd10 := fun _ _ _ _ _ _ us hl => match us, hl with | [_, _, _, _, _, _], _ => rfl
theorem bd11 : BindP dd11 := fun _ _ _ _ _ _ us hl => match us, hl with | [_, _, _, _, _, _], _ => rfl
theorem bd12 : BindP dd12 := fun _ _ _ _ _ _ us hl => match us, hl with | [_, _, _], _ => rfl
theorem bd13 : BindP dd13 := fun _ _ _ _ _ _ us hl => match us, hl with | [_], _ => rfl
theorem bd14 : BindP dd14 := fun _ _ _ _ _ _ us hl => match us, hl with | [_], _ => rfl
theorem bd15 : BindP dd15 := fun _ _ _ _ _ _ us hl => match us, hl with | [_, _, _], _ => rfl
theorem bd16 : BindP dd16 := fun _ _ _ _ _ _ us hl => match us, hl with | [_, _, _], _ => rfl
theorem bd17 : BindP dd17 := fun _ _ _ _ _ _ us hl => match us, hl with | [_, _], _ => rfl
theorem bd18 : BindP dd18 := fun _ _ _ _ _ _ us hl => match us, hl with | [_, _], _ => rfl
theorem bd19 : BindP dd19 := fun _ _ _ _ _ _ us hl => match us, hl with | [_], _ => rfl
theorem bd20 : BindP dd20 := fun _ _ _ _ _ _ us hl => match us, hl with | [_], _ => rfl
theorem bd21 : BindP dd21 := fun _ _ _ _ _ _ us hl => match us, hl with | [_], _ => rfl
theorem bd22 : BindP dd22 := fun _ _ _ _ _ _ us hl => match us, hl with | [_], _ => rfl
theorem bd23 : BindP dd23 := fun _ _ _ _ _ _ us hl => match us, hl with | [_, _], _ => rfl
theorem bd24 : BindP dd24 := fun _ _ _ _ _ _ us hl => match us, hl with | [_, _], _ => rfl
theorem bd25 : BindP dd25 := fun _ _ _ _ _ _ us hl => match us, hl with | [_, _], _ => rfl
theorem bd26 : BindP dd26 := fun _ _ _ _ _ _ us hl => match us, hl with | [_], _ => rfl
theorem bd27 : BindP dd27 := fun _ _ _ _ _ _ us hl => match us, hl with | [_], _ => rfl
theorem bd28 : BindP dd28 := fun _ _ _ _ _ _ us hl => match us, hl with | [_, _], _ => rfl
theorem bd29 : BindP dd29 := fun _ _ _ _ _ _ us hl => match us, hl with | [_], _ => rfl
theorem bd30 : BindP dd30 := fun _ _ _ _ _ _ us hl => match us, hl with | [_, _], _ => rfl
theorem bd31 : BindP dd31 := fun _ _ _ _ _ _ us hl => match us, hl with | [_, _], _ => rfl
theorem bd32 : BindP dd32 := fun _ _ _ _ _ _ us hl => match us, hl with | [_], _ => rfl
theorem bd33 : BindP dd33 := fun _ _ _ _ _ _ us hl => match us, hl with | [_], _ => rfl
theorem bd34 : BindP dd34 := fun _ _ _ _ _ _ us hl => match us, hl with | [_], _ => rfl
theorem bd35 : BindP dd35 := fun _ _ _ _ _ _ us hl => match us, hl with | [_], _ => rfl
theorem bd36 : BindP dd36 := fun _ _ _ _ _ _ us hl => match us, hl with | [_, _], _ => rfl
theorem bd37 : BindP dd37 := fun _ _ _ _ _ _ us hl => match us, hl with | [_], _ => rfl
theorem bd38 : BindP dd38 := fun _ _ _ _ _ _ us hl => match us, hl with | [_, _], _ => rfl
theorem bd39 : BindP dd39 := fun _ _ _ _ _ _ us hl => match us, hl with | [_, _, _], _ => rfl
theorem bd40 : BindP dd40 := fun _ _ _ _ _ _ us hl => match us, hl with | [_], _ => rfl
theorem bd41 : BindP dd41 := fun _ _ _ _ _ _ us hl => match us, hl with | [_, _, _], _ => rfl
theorem bd42 : BindP dd42 := fun _ _ _ _ _ _ us hl => match us, hl with | [_, _], _ => rfl
theorem bd43 : BindP dd43 := fun _ _ _ _ _ _ us hl => match us, hl with | [_, _, _, _, _], _ => rfl
theorem bd44 : BindP dd44 := fun _ _ _ _ _ _ us hl => match us, hl with | [_, _, _], _ => rfl
theorem bd45 : BindP dd45 := fun _ _ _ _ _ _ us hl => match us, hl with | [_, _, _, _, _, _], _ => rfl
theorem bd46 : BindP dd46 := fun _ _ _ _ _ _ us hl => match us, hl with | [_], _ => rfl
theorem bd47 : BindP dd47 := fun _ _ _ _ _ _ us hl => match us, hl with | [_], _ => rfl
theorem bd48 : BindP dd48 := fun _ _ _ _ _ _ us hl => match us, hl with | [_, _, _, _, _], _ => rfl
theorem bd49 : BindP dd49 := fun _ _ _ _ _ _ us hl => match us, hl with | [_, _, _, _], _ => rfl
theorem bd50 : BindP dd50 := fun _ _ _ _ _ _ us hl => match us, hl with | [_], _ => rfl
theorem bd51 : BindP dd51 := fun _ _ _ _ _ _ us hl => match us, hl with | [_, _, _, _, _], _ => rfl
theorem bd52 : BindP dd52 := fun _ _ _ _ _ _ us hl => match us, hl with | [_, _], _ => rfl
theorem bd53 : BindP dd53 := fun _ _ _ _ _ _ us hl => match us, hl with | [_], _ => rfl
theorem bd54 : BindP dd54 := fun _ _ _ _ _ _ us hl => match us, hl with | [_], _ => rfl
theorem bd55 : BindP dd55 := fun _ _ _ _ _ _ us hl => match us, hl with | [_, _, _, _, _], _ => rfl
theorem bd56 : BindP dd56 := fun _ _ _ _ _ _ us hl => match us, hl with | [_], _ => rfl
theorem bd57 : BindP dd57 := fun _ _ _ _ _ _ us hl => match us, hl with | [_], _ => rfl
theorem bd58 : BindP dd58 := fun _ _ _ _ _ _ us hl => match us, hl with | [_], _ => rfl
theorem bd59 : BindP dd59 := fun _ _ _ _ _ _ us hl => match us, hl with | [_, _, _, _], _ => rfl
theorem bd60 : BindP dd60 := fun _ _ _ _ _ _ us hl => match us, hl with | [_], _ => rfl
theorem bd61 : BindP dd61 := fun _ _ _ _ _ _ us hl => match us, hl with | [_, _, _, _, _], _ => rfl
theorem bd62 : BindP dd62 := fun _ _ _ _ _ _ us hl => match us, hl with | [_, _, _], _ => rfl
theorem bd63 : BindP dd63 := fun _ _ _ _ _ _ us hl => match us, hl with | [_, _, _], _ => rfl
theorem bd64 : BindP dd64 := fun _ _ _ _ _ _ us hl => match us, hl with | [_], _ => rfl
theorem bd65 : BindP dd65 := fun _ _ _ _ _ _ us hl => match us, hl with | [_, _], _ => rfl
theorem bd66 : BindP dd66 := fun _ _ _ _ _ _ us hl => match us, hl with | [_, _], _ => rfl
theorem bd67 : BindP dd67 := fun _ _ _ _ _ _ us hl => match us, hl with | [_], _ => rfl
theorem bd68 : BindP dd68 := fun _ _ _ _ _ _ us hl => match us, hl with | [_, _], _ => rfl
theorem bd69 : BindP dd69 := fun _ _ _ _ _ _ us hl => match us, hl with | [_, _, _, _, _, _], _ => rfl
theorem bd70 : BindP dd70 := fun _ _ _ _ _ _ us hl => match us, hl with | [_, _, _, _, _], _ => rfl
theorem bd71 : BindP dd71 := fun _ _ _ _ _ _ us hl => match us, hl with | [_, _, _, _, _, _, _], _ => rfl
theorem bd72 : BindP dd72 := fun _ _ _ _ _ _ us hl => match us, hl with | [_, _], _ => rfl
theorem bd73 : BindP dd73 := fun _ _ _ _ _ _ us hl => match us, hl with | [_, _], _ => rfl
theorem bd74 : BindP dd74 := fun _ _ _ _ _ _ us hl => match us, hl with | [_], _ => rfl
theorem bd75 : BindP dd75 := fun _ _ _ _ _ _ us hl => match us, hl with | [_], _ => rfl
theorem fa_c {x : Dd} {xs : List Dd} (h : BindP x) (k : ∀ y ∈ xs, BindP y) : ∀ y ∈ x :: xs, BindP y := List.forall_mem_cons.mpr ⟨h, k⟩
theorem fa_n : ∀ y ∈ ([] : List Dd), BindP y := fun _ h => nomatch h
theorem fa_a {xs ys : List Dd} (h : ∀ y ∈ xs, BindP y) (k : ∀ y ∈ ys, BindP y) : ∀ y ∈ xs ++ ys, BindP y := fun y hy => (List.mem_append.mp hy).elim (h y) (k y)
theorem bl0 : ∀ y ∈ dds0, BindP y := (fa_c bd0 (fa_c bd1 (fa_c bd2 (fa_c bd3 (fa_c bd4 (fa_c bd5 (fa_c bd6 (fa_c bd7 (fa_c bd8 (fa_c bd9 (fa_c bd10 (fa_c bd11 (fa_c bd12 (fa_c bd13 (fa_c bd14 (fa_c bd15 fa_n))))))))))))))))
theorem bl1 : ∀ y ∈ dds1, BindP y := (fa_c bd16 (fa_c bd17 (fa_c bd18 (fa_c bd19 (fa_c bd20 (fa_c bd21 (fa_c bd22 (fa_c bd23 (fa_c bd24 (fa_c bd25 (fa_c bd26 (fa_c bd27 (fa_c bd28 (fa_c bd29 (fa_c bd30 (fa_c bd31 fa_n))))))))))))))))
theorem bl2 : ∀ y ∈ dds2, BindP y := (fa_c bd32 (fa_c bd33 (fa_c bd34 (fa_c bd35 (fa_c bd36 (fa_c bd37 (fa_c bd38 (fa_c bd39 (fa_c bd40 (fa_c bd41 (fa_c bd42 (fa_c bd43 (fa_c bd44 (fa_c bd45 (fa_c bd46 (fa_c bd47 fa_n))))))))))))))))
theorem bl3 : ∀ y ∈ dds3, BindP y := (fa_c bd48 (fa_c bd49 (fa_c bd50 (fa_c bd51 (fa_c bd52 (fa_c bd53 (fa_c bd54 (fa_c bd55 (fa_c bd56 (fa_c bd57 (fa_c bd58 (fa_c bd59 (fa_c bd60 (fa_c bd61 (fa_c bd62 (fa_c bd63 fa_n))))))))))))))))
theorem bl4 : ∀ y ∈ dds4, BindP y := (fa_c bd64 (fa_c bd65 (fa_c bd66 (fa_c bd67 (fa_c bd68 (fa_c bd69 (fa_c bd70 (fa_c bd71 (fa_c bd72 (fa_c bd73 (fa_c bd74 (fa_c bd75 fa_n))))))))))))
theorem binds : ∀ y ∈ dds, BindP y := (fa_a (fa_a (fa_a (fa_a bl0 bl1) bl2) bl3) bl4)
def lawi : Nat := 144
end S

set_option Elab.async false
set_option linter.all false
set_option maxRecDepth 100000
set_option maxHeartbeats 0
namespace S
open PySem PySem.Spec PyProof.Rows L2 Lw
def loose0 : List PySem.Str := ["WorldError", "BadGround", "BadProgram", "BadKind", "BadGame", "NoWorld", "LEAST_SMALL", "MOST_SMALL", "is_integer", "is_within", "is_small", "is_below", "is_sized", "are_small", "is_word", "CELL"]
def loose1 : List PySem.Str := ["MOST_ROWS", "MOST_SIGNS", "MOST_SIDE", "FREE", "WALL", "MARKS", "is_row", "Ground", "spanned", "opens", "MOST_DEEP", "MOST_PARTS", "MOST_BODIES_programs", "MOST_STATEMENTS", "MOST_IN_ALL", "MOST_KINDS"]
def loose2 : List PySem.Str := ["NUMBER", "NAME", "SPEEDS", "CELLS", "SHARED", "SETS", "NAMES", "CONSTANT_ONES", "ONES", "CONSTANT_TWOS", "TWOS", "SET", "MAKE", "PUSH", "GONE", "SAY"]
def loose3 : List PySem.Str := ["IF", "WHILE", "EVENTS", "LENGTHS", "expression_size", "expressions_of", "bodies_of", "has_form", "statement_size", "body_size", "is_handler", "are_words", "Program", "MOST_PULL", "MOST_PLAYERS", "MOST_BIRTHS"]
def loose4 : List PySem.Str := ["Kind", "shares", "is_clear", "is_birth", "Game", "PRIME", "is_seed", "MOST_TICK", "MOST_BODIES_worlds", "MOST_SAID", "MOST_SPEED", "MANY_SHARED", "MANY_CELLS", "World", "is_speed", "is_body"]
def loose5 : List PySem.Str := ["are_bodies", "fits", "check_world", "LETTERS", "BLANK", "LINE_END", "rows_of", "text_of_rows", "ground_picture", "letter_of_body", "picture_of", "drawn", "changes_between", "body_line", "lines_of_bodies", "body_lines"]
def loose6 : List PySem.Str := ["Screen", "_law_hand", "_law_take", "_law_pick", "_law_wide", "_law_small", "_law_seed", "_law_is_integer", "_law_same", "_law_odd", "_law_ground_sign", "_law_rows", "_law_ground", "_law_sign", "_law_spots", "_law_open"]
def loose7 : List PySem.Str := ["_law_common", "_law_clear", "_law_kind", "_law_kinds", "_law_place", "_law_placed", "_law_speed", "_law_bodies", "_law_count_of", "_law_tick", "_law_said", "_law_parts", "_law_world_of", "_law_program_of", "_law_kind_of", "_law_game_of"]
def loose8 : List PySem.Str := ["_law_closed", "_law_shown_sign", "_law_shown", "_law_differences", "_law_bodies_text", "_law_show", "_law_lines_told"]
def loose : List PySem.Str := loose0 ++ loose1 ++ loose2 ++ loose3 ++ loose4 ++ loose5 ++ loose6 ++ loose7 ++ loose8
abbrev R : PySem.W.OpenRow := PySem.W.OpenLaw.row PySem.Challenge.rw_swornworlds_k72_whole_screens_show_what
abbrev hk : PySem.W.Hook := hookL 5 tb dds
def ob (s : PySem.W.SharedT) : He.AlD := obsLG 5 tb dds (HandSHeadRun.getT s)
theorem ob_eq (s : PySem.W.SharedT) : ob s = hk.obs s.abs := obsLG_eq (HandSHeadRun.getT_eq s)
theorem tri {A B C E : Type} {o : Option A} {f : A → B} {g : A → C} {h : A → E} {a : B} {b : C} {c : E} (e1 : o.map f = some a) (e2 : o.map g = some b) (e3 : o.map h = some c) : o.map (fun s => (f s, g s, h s)) = some (a, b, c) := by
  cases o with
  | none => cases e1
  | some s =>
    simp only [Option.map_some, Option.some.injEq] at e1 e2 e3 ⊢
    rw [e1, e2, e3]
abbrev qv : Program := PySem.W.view R.prog [144]
noncomputable abbrev ends (w : World) (os : OsState) : Option PySem.W.SharedT := HandSHeadRun.endF (HandSHeadRun.stepQ (HandSHeadRun.denQ HandSHeadRun.tabQ) R.prog w) 9000 R.prog w os
open PySem.W PySem.Calls in
def Eq1 (w : World) : Prop := ∀ os : OsState, (ends w os).map (fun s => HandSHeadRun.looksF R.prog (boot_heap w.params) s.abs) = some true
def Eq2 (w : World) : Prop := ∀ os : OsState, (ends w os).map (fun s => HandSHeadRun.seenQ qv loose (PySem.importedModules R.prog.main.body) (fun s => PySem.W.xlAt qv [] s && PySem.W.recOk R.toRowW.records s) s.abs) = some (PySem.W.openGood qv loose)
def Eq3 (w : World) : Prop := ∀ os : OsState, (ends w os).map (fun s => ob s) = some (hk.val w)
theorem run1F (w : World) : Eq1 (w.withFollow "special-get-raises" false) := by
  intro os
  kernel_rfl
theorem run1T (w : World) : Eq1 (w.withFollow "special-get-raises" true) := by
  intro os
  kernel_rfl
theorem run2F (w : World) : Eq2 (w.withFollow "special-get-raises" false) := by
  intro os
  kernel_rfl
theorem run2T (w : World) : Eq2 (w.withFollow "special-get-raises" true) := by
  intro os
  kernel_rfl
theorem run3F (w : World) : Eq3 (w.withFollow "special-get-raises" false) := by
  intro os
  kernel_rfl
theorem run3T (w : World) : Eq3 (w.withFollow "special-get-raises" true) := by
  intro os
  kernel_rfl
theorem run (w : World) : HandSHeadRun.RunEq R (PySem.W.view R.prog [144]) hk ob 9000 loose w := fun os =>
  tri (PySem.W.byRow2 "special-get-raises" (P := Eq1) run1F run1T w os) (PySem.W.byRow2 "special-get-raises" (P := Eq2) run2F run2T w os) (PySem.W.byRow2 "special-get-raises" (P := Eq3) run3F run3T w os)
end S

set_option Elab.async false
set_option linter.all false
set_option maxRecDepth 100000
set_option maxHeartbeats 2000000
/-! Lw23: the end of a law over a world's own context. -/
namespace Lw
open PySem PySem.Spec PyProof.Rows L2
theorem walkW {l : PySem.W.OpenLaw} {n k : Nat} {q : Program} {loose : List Str} {XP : (Str → Option Value) → Heap → Prop} {YP : World → Heap → Prop} {d : DefRec} {x : Str}
    (hn : l.most = some n) (hn2 : n ≤ sizeLine) (hdf : d.params.defaults = []) (hr : Room k callerA)
    (F : ∀ (w : World) (mg : Str → Option Value) (fa : Addr) (h : Heap), YP w h → h.Ns mainGlobals mg → mg d.name = some (.ref fa) →
      ∃ (K : PySem.W.Frag) (fd : FuncData) (sp : Sp), K.In h ∧ (∀ (s : Shared) (u : Value), BindsTo s fd ⟨[u], []⟩ [(x, u)]) ∧
        (∀ (H : Hp) (a : Addr) (ns : List Int), ns.length ≤ n → SqL K H a (ns.map V.int) → sp [.ref a] H (fun v _ => v = .bl true) fun _ _ _ => False) ∧
        ∀ base : Heap, FnOk l.prog w K mg base (L2.CX l.prog w) k fa fd [x] sp) :
    PySem.W.WalkO q loose XP YP l.row.toRowW d [] (fun f vs => PySem.call f vs) := by
  refine Att.attach_call hn hdf fun w s₀ s₁ mg mb fa o pm cd doc a vs ns G Y ho hd hcd hmg hobj hints hlen hg => ?_
  obtain ⟨K, fd, sp, KX, hb, hsp, hF⟩ := F w mg fa _ Y G.T.g hmg
  exact law_call KX G.T.g G.T.b G.T.builtins G.T.nolimit hg hobj hints (Nat.le_trans hlen hn2) hr (fun base _ _ => hF base) hb (fun H hO hS => hsp H a ns hlen hS) fun H e s' h => by
    obtain ⟨_, _, _, _, _, _, _, _, _, _, _, _, q⟩ := h
    exact q
end Lw

set_option Elab.async false
set_option linter.all false
set_option maxRecDepth 100000
set_option maxHeartbeats 0
namespace S
open PySem PySem.Spec PyProof.Rows L2 Lw
theorem fits_ok : fits tb dds = true := by kernel_rfl
theorem chk_ok : chkAll tb dds = true := by kernel_rfl
end S

set_option Elab.async false
set_option linter.all false
set_option maxRecDepth 100000
set_option maxHeartbeats 0
/-! PA: checks (numbers, tuples). -/
namespace S
open Lw Wp
local macro_rules | `(tactic| walk_at "wp") => `(tactic| try simp -dsimp -implicitDefEqProofs only [↓Wp.u_var, ↓Wp.u_cst, ↓Wp.u_glb, ↓Wp.u_fld, ↓Wp.u_bin, ↓Wp.u_neg, ↓Wp.u_cmp, ↓Wp.u_chn, ↓Wp.u_isN, ↓Wp.u_notN, ↓Wp.u_isB, ↓Wp.u_and, ↓Wp.u_or, ↓Wp.u_not, ↓Wp.u_ite, ↓Wp.u_tup, ↓Wp.u_lst, ↓Wp.u_dct0, ↓Wp.u_dct1, ↓Wp.u_call, ↓Wp.u_make, ↓Wp.u_meth, ↓Wp.u_bi, ↓Wp.u_bm, ↓Wp.u_idx, ↓Wp.u_sl, ↓Wp.u_rev, ↓Wp.u_lc, ↓Wp.u_frz, ↓Wp.u_nil, ↓Wp.u_cons, ↓Wp.u_tval, ↓Wp.u_tand, ↓Wp.u_tor, ↓Wp.u_tnot, ↓Wp.u_tn, ↓Wp.u_ts, ↓Wp.u_on, ↓Wp.u_os, ↓Wp.u_of, ↓Wp.u_rng1, ↓Wp.u_rng2, ↓Wp.u_rng3, ↓Wp.u_enum, ↓Wp.u_zip, ↓Wp.u_tname, ↓Wp.u_tfld, ↓Wp.u_tidx, ↓Wp.u_ttup, ↓Wp.u_tnil, ↓Wp.u_tcons, ↓Wp.u_set, ↓Wp.u_par, ↓Wp.u_aug, ↓Wp.u_ife, ↓Wp.u_for, ↓Wp.u_whil, ↓Wp.u_ret, ↓Wp.u_retN, ↓Wp.u_raise, ↓Wp.u_exp, ↓Wp.u_pass, ↓Wp.u_brk, ↓Wp.u_cnt, ↓Wp.u_never, ↓Wp.u_try, ↓Wp.u_snil, ↓Wp.u_scons, ↓Wp.u_augf, ↓Wp.u_turnL, ↓Wp.u_turnF, ↓Wp.opt_un, ↓reduceIte, Wp.optH_some, Wp.optH_none, Wp.u_finF, Wp.u_finL, Wp.u_finD, Wp.vr, Wp.bO, Wp.iO, Wp.nonD, Wp.blD, Lw.wipeE, Wp.parE, Wp.deref_non, Wp.deref_bl, Wp.deref_int, Wp.deref_str, Wp.deref_tup, Wp.deref_lst, Wp.deref_ins, Wp.deref_dct, Wp.deref_scr, Wp.deref_loc, Lw.truthF, Lw.lenF, Lw.keyF, Lw.getK, Lw.putK, Lw.idxF, Wp.idx_str, Lw.slF, Lw.revF, Lw.addF, Lw.subF, Wp.mulF_ok, Wp.mulF_r, Wp.mulF_l, Wp.mulF_lst, Wp.mulF_tup, Wp.mulF_str, Lw.fdivF, Lw.modF, Lw.powF, Lw.binF, Lw.augF, Lw.eqF, Lw.flatD, Lw.eqFl, Lw.inF, Lw.intsF, Lw.cmpF, Lw.isiF, Lw.lookF, Lw.fldF, Lw.clsF, Lw.mthF, Lw.strsF, Lw.blsF, Lw.one, Lw.two, Lw.tupleF, Lw.listF, Lw.intF, L2.ixN, Lw.min2F, Lw.max2F, Lw.maxlF, Lw.minlF, Lw.sumF, Lw.strF, Lw.absF, Lw.lrngF, Lw.isisF, Lw.biF, Lw.splitF, Lw.upperF, Lw.getF, Lw.bmF, Lw.extF, Lw.popF, Lw.bmM, Lw.argF, Lw.lstAt, Lw.itemsF, Lw.gdOf, Lw.frzF, Lw.setF, Lw.putFld, Lw.putIdx, Lw.bmT, Lw.bmW, Lw.tgsFit, Wp.dropE_nil, Wp.dropE_cons, Lw.delL, Wp.atI_zero, Wp.atI_pos, Wp.atI_last, Lw.Mem.set_same, Lw.Mem.set_set, Lw.Mem.set_ne, Lw.Mem.del_set, Wp.rngL_length, Wp.join_signs, Wp.mem_swap, Wp.sizeLine_val, Wp.one_inj, List.cons_append, List.nil_append, Int.reduceAbs, Nat.reducePow, Nat.reduceMod, Nat.reduceDiv, Nat.reduceAdd, Nat.reduceMul, Nat.reduceSub, Nat.reduceLT, Nat.reduceLeDiff, Nat.reduceEqDiff, Int.reduceAdd, Int.reduceSub, Int.reduceMul, Int.reduceLT, Int.reduceLE, Int.reduceGT, Int.reduceGE, Int.reduceEq, Int.reduceNe, Int.reducePow, Int.reduceToNat, Int.reduceDiv, Int.reduceMod, reduceCtorEq, Int.cast_ofNat_Int, if_true, if_false, Bool.false_eq_true, Option.some.injEq, Option.map_some, Option.bind_some, Option.map_none, Option.bind_none, Option.join_some, Option.isSome_some, Option.isSome_none, List.length_range, List.map_cons, List.map_nil, List.length_cons, List.length_nil, List.length_map, List.set_cons_zero, List.set_cons_succ, List.mem_cons, List.not_mem_nil, List.all_cons, List.all_nil, List.any_cons, List.any_nil, Bool.and_eq_true, Bool.and_true, Bool.true_and, Bool.and_false, Bool.false_and, Bool.or_false, Bool.false_or, Bool.or_true, Bool.true_or, Bool.not_true, Bool.not_false, Bool.not_eq_true, Bool.not_eq_false', Bool.not_eq_true', decide_eq_true_eq, decide_eq_false_iff_not, decide_true, decide_false, and_true, true_and, and_false, false_and, or_true, true_or, or_false, false_or, not_true_eq_false, not_false_eq_true, eq_self, ite_self, ne_eq, Int.reduceNeg, List.cons_ne_nil, S.gc_MOST_SMALL, S.gc_LEAST_SMALL, S.gc_MOST_SIGNS, S.gc_FREE, S.gc_WALL, S.gc_MARKS, S.gc_CELL, S.gc_PRIME, S.gc_MOST_SPEED, S.gc_MANY_CELLS, S.gc_MOST_BODIES_worlds, S.gc_MOST_TICK, S.gc_MANY_SHARED, S.gc_MOST_SAID, S.gc_LINE_END, S.gc_LETTERS, S.gc_BLANK, S.gc_MOST_ROWS, S.gc_MOST_SIDE, S.gc_MOST_PULL, S.gc_MOST_PLAYERS, S.gc_MOST_KINDS, S.gc_MOST_BIRTHS, S.gm_Screen_show, S.gm_Screen_shown, S.gm_Screen_picture, S.gi_Ground, S.gi_Kind, S.gi_Game, S.gi_World, S.gi_Screen, S.gf_Ground, S.gf_Kind, S.gf_Game, S.gf_World, S.gf_Screen, S.gs_NoWorld_NoWorld, S.gcls, S.N_Ground, S.N_rows, S.N_wide, S.N_high, S.N_Kind, S.N_solid, S.N_pull, S.N_program, S.N_Game, S.N_players, S.N_ground, S.N_kinds, S.N_births, S.N_World, S.N_tick, S.N_seed, S.N_shared, S.N_count, S.N_bodies, S.N_said, S.N_Screen, S.N_played, S.N_drawing, S.N_times, S.N_NoWorld, S.N_show, S.N_shown, S.N_picture, S.N_Program])
local macro_rules | `(tactic| walk_at "wp*") => `(tactic| try simp -dsimp -implicitDefEqProofs only [↓Wp.u_var, ↓Wp.u_cst, ↓Wp.u_glb, ↓Wp.u_fld, ↓Wp.u_bin, ↓Wp.u_neg, ↓Wp.u_cmp, ↓Wp.u_chn, ↓Wp.u_isN, ↓Wp.u_notN, ↓Wp.u_isB, ↓Wp.u_and, ↓Wp.u_or, ↓Wp.u_not, ↓Wp.u_ite, ↓Wp.u_tup, ↓Wp.u_lst, ↓Wp.u_dct0, ↓Wp.u_dct1, ↓Wp.u_call, ↓Wp.u_make, ↓Wp.u_meth, ↓Wp.u_bi, ↓Wp.u_bm, ↓Wp.u_idx, ↓Wp.u_sl, ↓Wp.u_rev, ↓Wp.u_lc, ↓Wp.u_frz, ↓Wp.u_nil, ↓Wp.u_cons, ↓Wp.u_tval, ↓Wp.u_tand, ↓Wp.u_tor, ↓Wp.u_tnot, ↓Wp.u_tn, ↓Wp.u_ts, ↓Wp.u_on, ↓Wp.u_os, ↓Wp.u_of, ↓Wp.u_rng1, ↓Wp.u_rng2, ↓Wp.u_rng3, ↓Wp.u_enum, ↓Wp.u_zip, ↓Wp.u_tname, ↓Wp.u_tfld, ↓Wp.u_tidx, ↓Wp.u_ttup, ↓Wp.u_tnil, ↓Wp.u_tcons, ↓Wp.u_set, ↓Wp.u_par, ↓Wp.u_aug, ↓Wp.u_ife, ↓Wp.u_for, ↓Wp.u_whil, ↓Wp.u_ret, ↓Wp.u_retN, ↓Wp.u_raise, ↓Wp.u_exp, ↓Wp.u_pass, ↓Wp.u_brk, ↓Wp.u_cnt, ↓Wp.u_never, ↓Wp.u_try, ↓Wp.u_snil, ↓Wp.u_scons, ↓Wp.u_augf, ↓Wp.u_turnL, ↓Wp.u_turnF, ↓Wp.opt_un, ↓reduceIte, Wp.optH_some, Wp.optH_none, Wp.u_finF, Wp.u_finL, Wp.u_finD, Wp.vr, Wp.bO, Wp.iO, Wp.nonD, Wp.blD, Lw.wipeE, Wp.parE, Wp.deref_non, Wp.deref_bl, Wp.deref_int, Wp.deref_str, Wp.deref_tup, Wp.deref_lst, Wp.deref_ins, Wp.deref_dct, Wp.deref_scr, Wp.deref_loc, Lw.truthF, Lw.lenF, Lw.keyF, Lw.getK, Lw.putK, Lw.idxF, Wp.idx_str, Lw.slF, Lw.revF, Lw.addF, Lw.subF, Wp.mulF_ok, Wp.mulF_r, Wp.mulF_l, Wp.mulF_lst, Wp.mulF_tup, Wp.mulF_str, Lw.fdivF, Lw.modF, Lw.powF, Lw.binF, Lw.augF, Lw.eqF, Lw.flatD, Lw.eqFl, Lw.inF, Lw.intsF, Lw.cmpF, Lw.isiF, Lw.lookF, Lw.fldF, Lw.clsF, Lw.mthF, Lw.strsF, Lw.blsF, Lw.one, Lw.two, Lw.tupleF, Lw.listF, Lw.intF, L2.ixN, Lw.min2F, Lw.max2F, Lw.maxlF, Lw.minlF, Lw.sumF, Lw.strF, Lw.absF, Lw.lrngF, Lw.isisF, Lw.biF, Lw.splitF, Lw.upperF, Lw.getF, Lw.bmF, Lw.extF, Lw.popF, Lw.bmM, Lw.argF, Lw.lstAt, Lw.itemsF, Lw.gdOf, Lw.frzF, Lw.setF, Lw.putFld, Lw.putIdx, Lw.bmT, Lw.bmW, Lw.tgsFit, Wp.dropE_nil, Wp.dropE_cons, Lw.delL, Wp.atI_zero, Wp.atI_pos, Wp.atI_last, Lw.Mem.set_same, Lw.Mem.set_set, Lw.Mem.set_ne, Lw.Mem.del_set, Wp.rngL_length, Wp.join_signs, Wp.mem_swap, Wp.sizeLine_val, Wp.one_inj, List.cons_append, List.nil_append, Int.reduceAbs, Nat.reducePow, Nat.reduceMod, Nat.reduceDiv, Nat.reduceAdd, Nat.reduceMul, Nat.reduceSub, Nat.reduceLT, Nat.reduceLeDiff, Nat.reduceEqDiff, Int.reduceAdd, Int.reduceSub, Int.reduceMul, Int.reduceLT, Int.reduceLE, Int.reduceGT, Int.reduceGE, Int.reduceEq, Int.reduceNe, Int.reducePow, Int.reduceToNat, Int.reduceDiv, Int.reduceMod, reduceCtorEq, Int.cast_ofNat_Int, if_true, if_false, Bool.false_eq_true, Option.some.injEq, Option.map_some, Option.bind_some, Option.map_none, Option.bind_none, Option.join_some, Option.isSome_some, Option.isSome_none, List.length_range, List.map_cons, List.map_nil, List.length_cons, List.length_nil, List.length_map, List.set_cons_zero, List.set_cons_succ, List.mem_cons, List.not_mem_nil, List.all_cons, List.all_nil, List.any_cons, List.any_nil, Bool.and_eq_true, Bool.and_true, Bool.true_and, Bool.and_false, Bool.false_and, Bool.or_false, Bool.false_or, Bool.or_true, Bool.true_or, Bool.not_true, Bool.not_false, Bool.not_eq_true, Bool.not_eq_false', Bool.not_eq_true', decide_eq_true_eq, decide_eq_false_iff_not, decide_true, decide_false, and_true, true_and, and_false, false_and, or_true, true_or, or_false, false_or, not_true_eq_false, not_false_eq_true, eq_self, ite_self, ne_eq, Int.reduceNeg, List.cons_ne_nil, S.gc_MOST_SMALL, S.gc_LEAST_SMALL, S.gc_MOST_SIGNS, S.gc_FREE, S.gc_WALL, S.gc_MARKS, S.gc_CELL, S.gc_PRIME, S.gc_MOST_SPEED, S.gc_MANY_CELLS, S.gc_MOST_BODIES_worlds, S.gc_MOST_TICK, S.gc_MANY_SHARED, S.gc_MOST_SAID, S.gc_LINE_END, S.gc_LETTERS, S.gc_BLANK, S.gc_MOST_ROWS, S.gc_MOST_SIDE, S.gc_MOST_PULL, S.gc_MOST_PLAYERS, S.gc_MOST_KINDS, S.gc_MOST_BIRTHS, S.gm_Screen_show, S.gm_Screen_shown, S.gm_Screen_picture, S.gi_Ground, S.gi_Kind, S.gi_Game, S.gi_World, S.gi_Screen, S.gf_Ground, S.gf_Kind, S.gf_Game, S.gf_World, S.gf_Screen, S.gs_NoWorld_NoWorld, S.gcls, S.N_Ground, S.N_rows, S.N_wide, S.N_high, S.N_Kind, S.N_solid, S.N_pull, S.N_program, S.N_Game, S.N_players, S.N_ground, S.N_kinds, S.N_births, S.N_World, S.N_tick, S.N_seed, S.N_shared, S.N_count, S.N_bodies, S.N_said, S.N_Screen, S.N_played, S.N_drawing, S.N_times, S.N_NoWorld, S.N_show, S.N_shown, S.N_picture, S.N_Program, *])
section
variable {n : Nat} {M : Mem} {Q : DK1} {X : XK1} {hq : Hid Q} {hx : Hid X}
theorem w_is_integer {i : Int} : callH (wpF gg fs (n + 1)) F_is_integer [.int i] M Q X hq hx = Q (.bl true) M := by
  rw [go_is_integer]
  walk_at "wp"
local macro_rules | `(tactic| walk_at "wp") => `(tactic| try simp -dsimp -implicitDefEqProofs only [↓Wp.u_var, ↓Wp.u_cst, ↓Wp.u_glb, ↓Wp.u_fld, ↓Wp.u_bin, ↓Wp.u_neg, ↓Wp.u_cmp, ↓Wp.u_chn, ↓Wp.u_isN, ↓Wp.u_notN, ↓Wp.u_isB, ↓Wp.u_and, ↓Wp.u_or, ↓Wp.u_not, ↓Wp.u_ite, ↓Wp.u_tup, ↓Wp.u_lst, ↓Wp.u_dct0, ↓Wp.u_dct1, ↓Wp.u_call, ↓Wp.u_make, ↓Wp.u_meth, ↓Wp.u_bi, ↓Wp.u_bm, ↓Wp.u_idx, ↓Wp.u_sl, ↓Wp.u_rev, ↓Wp.u_lc, ↓Wp.u_frz, ↓Wp.u_nil, ↓Wp.u_cons, ↓Wp.u_tval, ↓Wp.u_tand, ↓Wp.u_tor, ↓Wp.u_tnot, ↓Wp.u_tn, ↓Wp.u_ts, ↓Wp.u_on, ↓Wp.u_os, ↓Wp.u_of, ↓Wp.u_rng1, ↓Wp.u_rng2, ↓Wp.u_rng3, ↓Wp.u_enum, ↓Wp.u_zip, ↓Wp.u_tname, ↓Wp.u_tfld, ↓Wp.u_tidx, ↓Wp.u_ttup, ↓Wp.u_tnil, ↓Wp.u_tcons, ↓Wp.u_set, ↓Wp.u_par, ↓Wp.u_aug, ↓Wp.u_ife, ↓Wp.u_for, ↓Wp.u_whil, ↓Wp.u_ret, ↓Wp.u_retN, ↓Wp.u_raise, ↓Wp.u_exp, ↓Wp.u_pass, ↓Wp.u_brk, ↓Wp.u_cnt, ↓Wp.u_never, ↓Wp.u_try, ↓Wp.u_snil, ↓Wp.u_scons, ↓Wp.u_augf, ↓Wp.u_turnL, ↓Wp.u_turnF, ↓Wp.opt_un, ↓reduceIte, Wp.optH_some, Wp.optH_none, Wp.u_finF, Wp.u_finL, Wp.u_finD, Wp.vr, Wp.bO, Wp.iO, Wp.nonD, Wp.blD, Lw.wipeE, Wp.parE, Wp.deref_non, Wp.deref_bl, Wp.deref_int, Wp.deref_str, Wp.deref_tup, Wp.deref_lst, Wp.deref_ins, Wp.deref_dct, Wp.deref_scr, Wp.deref_loc, Lw.truthF, Lw.lenF, Lw.keyF, Lw.getK, Lw.putK, Lw.idxF, Wp.idx_str, Lw.slF, Lw.revF, Lw.addF, Lw.subF, Wp.mulF_ok, Wp.mulF_r, Wp.mulF_l, Wp.mulF_lst, Wp.mulF_tup, Wp.mulF_str, Lw.fdivF, Lw.modF, Lw.powF, Lw.binF, Lw.augF, Lw.eqF, Lw.flatD, Lw.eqFl, Lw.inF, Lw.intsF, Lw.cmpF, Lw.isiF, Lw.lookF, Lw.fldF, Lw.clsF, Lw.mthF, Lw.strsF, Lw.blsF, Lw.one, Lw.two, Lw.tupleF, Lw.listF, Lw.intF, L2.ixN, Lw.min2F, Lw.max2F, Lw.maxlF, Lw.minlF, Lw.sumF, Lw.strF, Lw.absF, Lw.lrngF, Lw.isisF, Lw.biF, Lw.splitF, Lw.upperF, Lw.getF, Lw.bmF, Lw.extF, Lw.popF, Lw.bmM, Lw.argF, Lw.lstAt, Lw.itemsF, Lw.gdOf, Lw.frzF, Lw.setF, Lw.putFld, Lw.putIdx, Lw.bmT, Lw.bmW, Lw.tgsFit, Wp.dropE_nil, Wp.dropE_cons, Lw.delL, Wp.atI_zero, Wp.atI_pos, Wp.atI_last, Lw.Mem.set_same, Lw.Mem.set_set, Lw.Mem.set_ne, Lw.Mem.del_set, Wp.rngL_length, Wp.join_signs, Wp.mem_swap, Wp.sizeLine_val, Wp.one_inj, List.cons_append, List.nil_append, Int.reduceAbs, Nat.reducePow, Nat.reduceMod, Nat.reduceDiv, Nat.reduceAdd, Nat.reduceMul, Nat.reduceSub, Nat.reduceLT, Nat.reduceLeDiff, Nat.reduceEqDiff, Int.reduceAdd, Int.reduceSub, Int.reduceMul, Int.reduceLT, Int.reduceLE, Int.reduceGT, Int.reduceGE, Int.reduceEq, Int.reduceNe, Int.reducePow, Int.reduceToNat, Int.reduceDiv, Int.reduceMod, reduceCtorEq, Int.cast_ofNat_Int, if_true, if_false, Bool.false_eq_true, Option.some.injEq, Option.map_some, Option.bind_some, Option.map_none, Option.bind_none, Option.join_some, Option.isSome_some, Option.isSome_none, List.length_range, List.map_cons, List.map_nil, List.length_cons, List.length_nil, List.length_map, List.set_cons_zero, List.set_cons_succ, List.mem_cons, List.not_mem_nil, List.all_cons, List.all_nil, List.any_cons, List.any_nil, Bool.and_eq_true, Bool.and_true, Bool.true_and, Bool.and_false, Bool.false_and, Bool.or_false, Bool.false_or, Bool.or_true, Bool.true_or, Bool.not_true, Bool.not_false, Bool.not_eq_true, Bool.not_eq_false', Bool.not_eq_true', decide_eq_true_eq, decide_eq_false_iff_not, decide_true, decide_false, and_true, true_and, and_false, false_and, or_true, true_or, or_false, false_or, not_true_eq_false, not_false_eq_true, eq_self, ite_self, ne_eq, Int.reduceNeg, List.cons_ne_nil, S.gc_MOST_SMALL, S.gc_LEAST_SMALL, S.gc_MOST_SIGNS, S.gc_FREE, S.gc_WALL, S.gc_MARKS, S.gc_CELL, S.gc_PRIME, S.gc_MOST_SPEED, S.gc_MANY_CELLS, S.gc_MOST_BODIES_worlds, S.gc_MOST_TICK, S.gc_MANY_SHARED, S.gc_MOST_SAID, S.gc_LINE_END, S.gc_LETTERS, S.gc_BLANK, S.gc_MOST_ROWS, S.gc_MOST_SIDE, S.gc_MOST_PULL, S.gc_MOST_PLAYERS, S.gc_MOST_KINDS, S.gc_MOST_BIRTHS, S.gm_Screen_show, S.gm_Screen_shown, S.gm_Screen_picture, S.gi_Ground, S.gi_Kind, S.gi_Game, S.gi_World, S.gi_Screen, S.gf_Ground, S.gf_Kind, S.gf_Game, S.gf_World, S.gf_Screen, S.gs_NoWorld_NoWorld, S.gcls, S.N_Ground, S.N_rows, S.N_wide, S.N_high, S.N_Kind, S.N_solid, S.N_pull, S.N_program, S.N_Game, S.N_players, S.N_ground, S.N_kinds, S.N_births, S.N_World, S.N_tick, S.N_seed, S.N_shared, S.N_count, S.N_bodies, S.N_said, S.N_Screen, S.N_played, S.N_drawing, S.N_times, S.N_NoWorld, S.N_show, S.N_shown, S.N_picture, S.N_Program, S.w_is_integer])
local macro_rules | `(tactic| walk_at "wp*") => `(tactic| try simp -dsimp -implicitDefEqProofs only [↓Wp.u_var, ↓Wp.u_cst, ↓Wp.u_glb, ↓Wp.u_fld, ↓Wp.u_bin, ↓Wp.u_neg, ↓Wp.u_cmp, ↓Wp.u_chn, ↓Wp.u_isN, ↓Wp.u_notN, ↓Wp.u_isB, ↓Wp.u_and, ↓Wp.u_or, ↓Wp.u_not, ↓Wp.u_ite, ↓Wp.u_tup, ↓Wp.u_lst, ↓Wp.u_dct0, ↓Wp.u_dct1, ↓Wp.u_call, ↓Wp.u_make, ↓Wp.u_meth, ↓Wp.u_bi, ↓Wp.u_bm, ↓Wp.u_idx, ↓Wp.u_sl, ↓Wp.u_rev, ↓Wp.u_lc, ↓Wp.u_frz, ↓Wp.u_nil, ↓Wp.u_cons, ↓Wp.u_tval, ↓Wp.u_tand, ↓Wp.u_tor, ↓Wp.u_tnot, ↓Wp.u_tn, ↓Wp.u_ts, ↓Wp.u_on, ↓Wp.u_os, ↓Wp.u_of, ↓Wp.u_rng1, ↓Wp.u_rng2, ↓Wp.u_rng3, ↓Wp.u_enum, ↓Wp.u_zip, ↓Wp.u_tname, ↓Wp.u_tfld, ↓Wp.u_tidx, ↓Wp.u_ttup, ↓Wp.u_tnil, ↓Wp.u_tcons, ↓Wp.u_set, ↓Wp.u_par, ↓Wp.u_aug, ↓Wp.u_ife, ↓Wp.u_for, ↓Wp.u_whil, ↓Wp.u_ret, ↓Wp.u_retN, ↓Wp.u_raise, ↓Wp.u_exp, ↓Wp.u_pass, ↓Wp.u_brk, ↓Wp.u_cnt, ↓Wp.u_never, ↓Wp.u_try, ↓Wp.u_snil, ↓Wp.u_scons, ↓Wp.u_augf, ↓Wp.u_turnL, ↓Wp.u_turnF, ↓Wp.opt_un, ↓reduceIte, Wp.optH_some, Wp.optH_none, Wp.u_finF, Wp.u_finL, Wp.u_finD, Wp.vr, Wp.bO, Wp.iO, Wp.nonD, Wp.blD, Lw.wipeE, Wp.parE, Wp.deref_non, Wp.deref_bl, Wp.deref_int, Wp.deref_str, Wp.deref_tup, Wp.deref_lst, Wp.deref_ins, Wp.deref_dct, Wp.deref_scr, Wp.deref_loc, Lw.truthF, Lw.lenF, Lw.keyF, Lw.getK, Lw.putK, Lw.idxF, Wp.idx_str, Lw.slF, Lw.revF, Lw.addF, Lw.subF, Wp.mulF_ok, Wp.mulF_r, Wp.mulF_l, Wp.mulF_lst, Wp.mulF_tup, Wp.mulF_str, Lw.fdivF, Lw.modF, Lw.powF, Lw.binF, Lw.augF, Lw.eqF, Lw.flatD, Lw.eqFl, Lw.inF, Lw.intsF, Lw.cmpF, Lw.isiF, Lw.lookF, Lw.fldF, Lw.clsF, Lw.mthF, Lw.strsF, Lw.blsF, Lw.one, Lw.two, Lw.tupleF, Lw.listF, Lw.intF, L2.ixN, Lw.min2F, Lw.max2F, Lw.maxlF, Lw.minlF, Lw.sumF, Lw.strF, Lw.absF, Lw.lrngF, Lw.isisF, Lw.biF, Lw.splitF, Lw.upperF, Lw.getF, Lw.bmF, Lw.extF, Lw.popF, Lw.bmM, Lw.argF, Lw.lstAt, Lw.itemsF, Lw.gdOf, Lw.frzF, Lw.setF, Lw.putFld, Lw.putIdx, Lw.bmT, Lw.bmW, Lw.tgsFit, Wp.dropE_nil, Wp.dropE_cons, Lw.delL, Wp.atI_zero, Wp.atI_pos, Wp.atI_last, Lw.Mem.set_same, Lw.Mem.set_set, Lw.Mem.set_ne, Lw.Mem.del_set, Wp.rngL_length, Wp.join_signs, Wp.mem_swap, Wp.sizeLine_val, Wp.one_inj, List.cons_append, List.nil_append, Int.reduceAbs, Nat.reducePow, Nat.reduceMod, Nat.reduceDiv, Nat.reduceAdd, Nat.reduceMul, Nat.reduceSub, Nat.reduceLT, Nat.reduceLeDiff, Nat.reduceEqDiff, Int.reduceAdd, Int.reduceSub, Int.reduceMul, Int.reduceLT, Int.reduceLE, Int.reduceGT, Int.reduceGE, Int.reduceEq, Int.reduceNe, Int.reducePow, Int.reduceToNat, Int.reduceDiv, Int.reduceMod, reduceCtorEq, Int.cast_ofNat_Int, if_true, if_false, Bool.false_eq_true, Option.some.injEq, Option.map_some, Option.bind_some, Option.map_none, Option.bind_none, Option.join_some, Option.isSome_some, Option.isSome_none, List.length_range, List.map_cons, List.map_nil, List.length_cons, List.length_nil, List.length_map, List.set_cons_zero, List.set_cons_succ, List.mem_cons, List.not_mem_nil, List.all_cons, List.all_nil, List.any_cons, List.any_nil, Bool.and_eq_true, Bool.and_true, Bool.true_and, Bool.and_false, Bool.false_and, Bool.or_false, Bool.false_or, Bool.or_true, Bool.true_or, Bool.not_true, Bool.not_false, Bool.not_eq_true, Bool.not_eq_false', Bool.not_eq_true', decide_eq_true_eq, decide_eq_false_iff_not, decide_true, decide_false, and_true, true_and, and_false, false_and, or_true, true_or, or_false, false_or, not_true_eq_false, not_false_eq_true, eq_self, ite_self, ne_eq, Int.reduceNeg, List.cons_ne_nil, S.gc_MOST_SMALL, S.gc_LEAST_SMALL, S.gc_MOST_SIGNS, S.gc_FREE, S.gc_WALL, S.gc_MARKS, S.gc_CELL, S.gc_PRIME, S.gc_MOST_SPEED, S.gc_MANY_CELLS, S.gc_MOST_BODIES_worlds, S.gc_MOST_TICK, S.gc_MANY_SHARED, S.gc_MOST_SAID, S.gc_LINE_END, S.gc_LETTERS, S.gc_BLANK, S.gc_MOST_ROWS, S.gc_MOST_SIDE, S.gc_MOST_PULL, S.gc_MOST_PLAYERS, S.gc_MOST_KINDS, S.gc_MOST_BIRTHS, S.gm_Screen_show, S.gm_Screen_shown, S.gm_Screen_picture, S.gi_Ground, S.gi_Kind, S.gi_Game, S.gi_World, S.gi_Screen, S.gf_Ground, S.gf_Kind, S.gf_Game, S.gf_World, S.gf_Screen, S.gs_NoWorld_NoWorld, S.gcls, S.N_Ground, S.N_rows, S.N_wide, S.N_high, S.N_Kind, S.N_solid, S.N_pull, S.N_program, S.N_Game, S.N_players, S.N_ground, S.N_kinds, S.N_births, S.N_World, S.N_tick, S.N_seed, S.N_shared, S.N_count, S.N_bodies, S.N_said, S.N_Screen, S.N_played, S.N_drawing, S.N_times, S.N_NoWorld, S.N_show, S.N_shown, S.N_picture, S.N_Program, S.w_is_integer, *])
theorem w_is_within {i a b : Int} : callH (wpF gg fs (n + 2)) F_is_within [.int i, .int a, .int b] M Q X hq hx = Q (.bl (decide (a ≤ i) && decide (i ≤ b))) M := by
  rw [go_is_within]
  walk_at "wp"
  by_cases h : a ≤ i <;> simp [h]
def smallB (i : Int) : Bool := decide (-2147483648 ≤ i) && decide (i ≤ 2147483647)
theorem w_is_sized {xs : List D} {a b : Int} : callH (wpF gg fs (n + 1)) F_is_sized [.tup xs, .int a, .int b] M Q X hq hx = Q (.bl (decide (a ≤ (xs.length : Int)) && decide ((xs.length : Int) ≤ b))) M := by
  rw [go_is_sized]
  walk_at "wp"
  by_cases h : a ≤ (xs.length : Int) <;> simp [h]
theorem w_is_sized_non {a b : Int} : callH (wpF gg fs (n + 1)) F_is_sized [.non, .int a, .int b] M Q X hq hx = Q (.bl false) M := by
  rw [go_is_sized]
  walk_at "wp"
theorem blsF_map {α : Type} (f : α → Bool) : ∀ xs : List α, blsF (xs.map fun x => D.bl (f x)) = some (xs.map f)
  | [] => rfl
  | x :: xs => by
    simp only [List.map_cons, blsF, blsF_map f xs, Option.map_some]
theorem allF_map {α : Type} (f : α → Bool) (xs : List α) : allF (.lst (xs.map fun x => D.bl (f x))) = some (.bl (xs.all f)) := by
  simp only [allF, blsF_map, Option.map_some]
  simp [Function.comp_def]
theorem anyF_map {α : Type} (f : α → Bool) (xs : List α) : anyF (.lst (xs.map fun x => D.bl (f x))) = some (.bl (xs.any f)) := by
  simp only [anyF, blsF_map, Option.map_some]
  simp [Function.comp_def]
local macro_rules | `(tactic| walk_at "wp") => `(tactic| try simp -dsimp -implicitDefEqProofs only [↓Wp.u_var, ↓Wp.u_cst, ↓Wp.u_glb, ↓Wp.u_fld, ↓Wp.u_bin, ↓Wp.u_neg, ↓Wp.u_cmp, ↓Wp.u_chn, ↓Wp.u_isN, ↓Wp.u_notN, ↓Wp.u_isB, ↓Wp.u_and, ↓Wp.u_or, ↓Wp.u_not, ↓Wp.u_ite, ↓Wp.u_tup, ↓Wp.u_lst, ↓Wp.u_dct0, ↓Wp.u_dct1, ↓Wp.u_call, ↓Wp.u_make, ↓Wp.u_meth, ↓Wp.u_bi, ↓Wp.u_bm, ↓Wp.u_idx, ↓Wp.u_sl, ↓Wp.u_rev, ↓Wp.u_lc, ↓Wp.u_frz, ↓Wp.u_nil, ↓Wp.u_cons, ↓Wp.u_tval, ↓Wp.u_tand, ↓Wp.u_tor, ↓Wp.u_tnot, ↓Wp.u_tn, ↓Wp.u_ts, ↓Wp.u_on, ↓Wp.u_os, ↓Wp.u_of, ↓Wp.u_rng1, ↓Wp.u_rng2, ↓Wp.u_rng3, ↓Wp.u_enum, ↓Wp.u_zip, ↓Wp.u_tname, ↓Wp.u_tfld, ↓Wp.u_tidx, ↓Wp.u_ttup, ↓Wp.u_tnil, ↓Wp.u_tcons, ↓Wp.u_set, ↓Wp.u_par, ↓Wp.u_aug, ↓Wp.u_ife, ↓Wp.u_for, ↓Wp.u_whil, ↓Wp.u_ret, ↓Wp.u_retN, ↓Wp.u_raise, ↓Wp.u_exp, ↓Wp.u_pass, ↓Wp.u_brk, ↓Wp.u_cnt, ↓Wp.u_never, ↓Wp.u_try, ↓Wp.u_snil, ↓Wp.u_scons, ↓Wp.u_augf, ↓Wp.u_turnL, ↓Wp.u_turnF, ↓Wp.opt_un, ↓reduceIte, Wp.optH_some, Wp.optH_none, Wp.u_finF, Wp.u_finL, Wp.u_finD, Wp.vr, Wp.bO, Wp.iO, Wp.nonD, Wp.blD, Lw.wipeE, Wp.parE, Wp.deref_non, Wp.deref_bl, Wp.deref_int, Wp.deref_str, Wp.deref_tup, Wp.deref_lst, Wp.deref_ins, Wp.deref_dct, Wp.deref_scr, Wp.deref_loc, Lw.truthF, Lw.lenF, Lw.keyF, Lw.getK, Lw.putK, Lw.idxF, Wp.idx_str, Lw.slF, Lw.revF, Lw.addF, Lw.subF, Wp.mulF_ok, Wp.mulF_r, Wp.mulF_l, Wp.mulF_lst, Wp.mulF_tup, Wp.mulF_str, Lw.fdivF, Lw.modF, Lw.powF, Lw.binF, Lw.augF, Lw.eqF, Lw.flatD, Lw.eqFl, Lw.inF, Lw.intsF, Lw.cmpF, Lw.isiF, Lw.lookF, Lw.fldF, Lw.clsF, Lw.mthF, Lw.strsF, Lw.blsF, Lw.one, Lw.two, Lw.tupleF, Lw.listF, Lw.intF, L2.ixN, Lw.min2F, Lw.max2F, Lw.maxlF, Lw.minlF, Lw.sumF, Lw.strF, Lw.absF, Lw.lrngF, Lw.isisF, Lw.biF, Lw.splitF, Lw.upperF, Lw.getF, Lw.bmF, Lw.extF, Lw.popF, Lw.bmM, Lw.argF, Lw.lstAt, Lw.itemsF, Lw.gdOf, Lw.frzF, Lw.setF, Lw.putFld, Lw.putIdx, Lw.bmT, Lw.bmW, Lw.tgsFit, Wp.dropE_nil, Wp.dropE_cons, Lw.delL, Wp.atI_zero, Wp.atI_pos, Wp.atI_last, Lw.Mem.set_same, Lw.Mem.set_set, Lw.Mem.set_ne, Lw.Mem.del_set, Wp.rngL_length, Wp.join_signs, Wp.mem_swap, Wp.sizeLine_val, Wp.one_inj, List.cons_append, List.nil_append, Int.reduceAbs, Nat.reducePow, Nat.reduceMod, Nat.reduceDiv, Nat.reduceAdd, Nat.reduceMul, Nat.reduceSub, Nat.reduceLT, Nat.reduceLeDiff, Nat.reduceEqDiff, Int.reduceAdd, Int.reduceSub, Int.reduceMul, Int.reduceLT, Int.reduceLE, Int.reduceGT, Int.reduceGE, Int.reduceEq, Int.reduceNe, Int.reducePow, Int.reduceToNat, Int.reduceDiv, Int.reduceMod, reduceCtorEq, Int.cast_ofNat_Int, if_true, if_false, Bool.false_eq_true, Option.some.injEq, Option.map_some, Option.bind_some, Option.map_none, Option.bind_none, Option.join_some, Option.isSome_some, Option.isSome_none, List.length_range, List.map_cons, List.map_nil, List.length_cons, List.length_nil, List.length_map, List.set_cons_zero, List.set_cons_succ, List.mem_cons, List.not_mem_nil, List.all_cons, List.all_nil, List.any_cons, List.any_nil, Bool.and_eq_true, Bool.and_true, Bool.true_and, Bool.and_false, Bool.false_and, Bool.or_false, Bool.false_or, Bool.or_true, Bool.true_or, Bool.not_true, Bool.not_false, Bool.not_eq_true, Bool.not_eq_false', Bool.not_eq_true', decide_eq_true_eq, decide_eq_false_iff_not, decide_true, decide_false, and_true, true_and, and_false, false_and, or_true, true_or, or_false, false_or, not_true_eq_false, not_false_eq_true, eq_self, ite_self, ne_eq, Int.reduceNeg, List.cons_ne_nil, S.gc_MOST_SMALL, S.gc_LEAST_SMALL, S.gc_MOST_SIGNS, S.gc_FREE, S.gc_WALL, S.gc_MARKS, S.gc_CELL, S.gc_PRIME, S.gc_MOST_SPEED, S.gc_MANY_CELLS, S.gc_MOST_BODIES_worlds, S.gc_MOST_TICK, S.gc_MANY_SHARED, S.gc_MOST_SAID, S.gc_LINE_END, S.gc_LETTERS, S.gc_BLANK, S.gc_MOST_ROWS, S.gc_MOST_SIDE, S.gc_MOST_PULL, S.gc_MOST_PLAYERS, S.gc_MOST_KINDS, S.gc_MOST_BIRTHS, S.gm_Screen_show, S.gm_Screen_shown, S.gm_Screen_picture, S.gi_Ground, S.gi_Kind, S.gi_Game, S.gi_World, S.gi_Screen, S.gf_Ground, S.gf_Kind, S.gf_Game, S.gf_World, S.gf_Screen, S.gs_NoWorld_NoWorld, S.gcls, S.N_Ground, S.N_rows, S.N_wide, S.N_high, S.N_Kind, S.N_solid, S.N_pull, S.N_program, S.N_Game, S.N_players, S.N_ground, S.N_kinds, S.N_births, S.N_World, S.N_tick, S.N_seed, S.N_shared, S.N_count, S.N_bodies, S.N_said, S.N_Screen, S.N_played, S.N_drawing, S.N_times, S.N_NoWorld, S.N_show, S.N_shown, S.N_picture, S.N_Program, S.w_is_integer, S.w_is_within, S.w_is_sized, S.w_is_sized_non, S.allF_map, S.anyF_map])
local macro_rules | `(tactic| walk_at "wp*") => `(tactic| try simp -dsimp -implicitDefEqProofs only [↓Wp.u_var, ↓Wp.u_cst, ↓Wp.u_glb, ↓Wp.u_fld, ↓Wp.u_bin, ↓Wp.u_neg, ↓Wp.u_cmp, ↓Wp.u_chn, ↓Wp.u_isN, ↓Wp.u_notN, ↓Wp.u_isB, ↓Wp.u_and, ↓Wp.u_or, ↓Wp.u_not, ↓Wp.u_ite, ↓Wp.u_tup, ↓Wp.u_lst, ↓Wp.u_dct0, ↓Wp.u_dct1, ↓Wp.u_call, ↓Wp.u_make, ↓Wp.u_meth, ↓Wp.u_bi, ↓Wp.u_bm, ↓Wp.u_idx, ↓Wp.u_sl, ↓Wp.u_rev, ↓Wp.u_lc, ↓Wp.u_frz, ↓Wp.u_nil, ↓Wp.u_cons, ↓Wp.u_tval, ↓Wp.u_tand, ↓Wp.u_tor, ↓Wp.u_tnot, ↓Wp.u_tn, ↓Wp.u_ts, ↓Wp.u_on, ↓Wp.u_os, ↓Wp.u_of, ↓Wp.u_rng1, ↓Wp.u_rng2, ↓Wp.u_rng3, ↓Wp.u_enum, ↓Wp.u_zip, ↓Wp.u_tname, ↓Wp.u_tfld, ↓Wp.u_tidx, ↓Wp.u_ttup, ↓Wp.u_tnil, ↓Wp.u_tcons, ↓Wp.u_set, ↓Wp.u_par, ↓Wp.u_aug, ↓Wp.u_ife, ↓Wp.u_for, ↓Wp.u_whil, ↓Wp.u_ret, ↓Wp.u_retN, ↓Wp.u_raise, ↓Wp.u_exp, ↓Wp.u_pass, ↓Wp.u_brk, ↓Wp.u_cnt, ↓Wp.u_never, ↓Wp.u_try, ↓Wp.u_snil, ↓Wp.u_scons, ↓Wp.u_augf, ↓Wp.u_turnL, ↓Wp.u_turnF, ↓Wp.opt_un, ↓reduceIte, Wp.optH_some, Wp.optH_none, Wp.u_finF, Wp.u_finL, Wp.u_finD, Wp.vr, Wp.bO, Wp.iO, Wp.nonD, Wp.blD, Lw.wipeE, Wp.parE, Wp.deref_non, Wp.deref_bl, Wp.deref_int, Wp.deref_str, Wp.deref_tup, Wp.deref_lst, Wp.deref_ins, Wp.deref_dct, Wp.deref_scr, Wp.deref_loc, Lw.truthF, Lw.lenF, Lw.keyF, Lw.getK, Lw.putK, Lw.idxF, Wp.idx_str, Lw.slF, Lw.revF, Lw.addF, Lw.subF, Wp.mulF_ok, Wp.mulF_r, Wp.mulF_l, Wp.mulF_lst, Wp.mulF_tup, Wp.mulF_str, Lw.fdivF, Lw.modF, Lw.powF, Lw.binF, Lw.augF, Lw.eqF, Lw.flatD, Lw.eqFl, Lw.inF, Lw.intsF, Lw.cmpF, Lw.isiF, Lw.lookF, Lw.fldF, Lw.clsF, Lw.mthF, Lw.strsF, Lw.blsF, Lw.one, Lw.two, Lw.tupleF, Lw.listF, Lw.intF, L2.ixN, Lw.min2F, Lw.max2F, Lw.maxlF, Lw.minlF, Lw.sumF, Lw.strF, Lw.absF, Lw.lrngF, Lw.isisF, Lw.biF, Lw.splitF, Lw.upperF, Lw.getF, Lw.bmF, Lw.extF, Lw.popF, Lw.bmM, Lw.argF, Lw.lstAt, Lw.itemsF, Lw.gdOf, Lw.frzF, Lw.setF, Lw.putFld, Lw.putIdx, Lw.bmT, Lw.bmW, Lw.tgsFit, Wp.dropE_nil, Wp.dropE_cons, Lw.delL, Wp.atI_zero, Wp.atI_pos, Wp.atI_last, Lw.Mem.set_same, Lw.Mem.set_set, Lw.Mem.set_ne, Lw.Mem.del_set, Wp.rngL_length, Wp.join_signs, Wp.mem_swap, Wp.sizeLine_val, Wp.one_inj, List.cons_append, List.nil_append, Int.reduceAbs, Nat.reducePow, Nat.reduceMod, Nat.reduceDiv, Nat.reduceAdd, Nat.reduceMul, Nat.reduceSub, Nat.reduceLT, Nat.reduceLeDiff, Nat.reduceEqDiff, Int.reduceAdd, Int.reduceSub, Int.reduceMul, Int.reduceLT, Int.reduceLE, Int.reduceGT, Int.reduceGE, Int.reduceEq, Int.reduceNe, Int.reducePow, Int.reduceToNat, Int.reduceDiv, Int.reduceMod, reduceCtorEq, Int.cast_ofNat_Int, if_true, if_false, Bool.false_eq_true, Option.some.injEq, Option.map_some, Option.bind_some, Option.map_none, Option.bind_none, Option.join_some, Option.isSome_some, Option.isSome_none, List.length_range, List.map_cons, List.map_nil, List.length_cons, List.length_nil, List.length_map, List.set_cons_zero, List.set_cons_succ, List.mem_cons, List.not_mem_nil, List.all_cons, List.all_nil, List.any_cons, List.any_nil, Bool.and_eq_true, Bool.and_true, Bool.true_and, Bool.and_false, Bool.false_and, Bool.or_false, Bool.false_or, Bool.or_true, Bool.true_or, Bool.not_true, Bool.not_false, Bool.not_eq_true, Bool.not_eq_false', Bool.not_eq_true', decide_eq_true_eq, decide_eq_false_iff_not, decide_true, decide_false, and_true, true_and, and_false, false_and, or_true, true_or, or_false, false_or, not_true_eq_false, not_false_eq_true, eq_self, ite_self, ne_eq, Int.reduceNeg, List.cons_ne_nil, S.gc_MOST_SMALL, S.gc_LEAST_SMALL, S.gc_MOST_SIGNS, S.gc_FREE, S.gc_WALL, S.gc_MARKS, S.gc_CELL, S.gc_PRIME, S.gc_MOST_SPEED, S.gc_MANY_CELLS, S.gc_MOST_BODIES_worlds, S.gc_MOST_TICK, S.gc_MANY_SHARED, S.gc_MOST_SAID, S.gc_LINE_END, S.gc_LETTERS, S.gc_BLANK, S.gc_MOST_ROWS, S.gc_MOST_SIDE, S.gc_MOST_PULL, S.gc_MOST_PLAYERS, S.gc_MOST_KINDS, S.gc_MOST_BIRTHS, S.gm_Screen_show, S.gm_Screen_shown, S.gm_Screen_picture, S.gi_Ground, S.gi_Kind, S.gi_Game, S.gi_World, S.gi_Screen, S.gf_Ground, S.gf_Kind, S.gf_Game, S.gf_World, S.gf_Screen, S.gs_NoWorld_NoWorld, S.gcls, S.N_Ground, S.N_rows, S.N_wide, S.N_high, S.N_Kind, S.N_solid, S.N_pull, S.N_program, S.N_Game, S.N_players, S.N_ground, S.N_kinds, S.N_births, S.N_World, S.N_tick, S.N_seed, S.N_shared, S.N_count, S.N_bodies, S.N_said, S.N_Screen, S.N_played, S.N_drawing, S.N_times, S.N_NoWorld, S.N_show, S.N_shown, S.N_picture, S.N_Program, S.w_is_integer, S.w_is_within, S.w_is_sized, S.w_is_sized_non, S.allF_map, S.anyF_map, *])
theorem w_is_small {i : Int} : callH (wpF gg fs (n + 3)) F_is_small [.int i] M Q X hq hx = Q (.bl (smallB i)) M := by
  rw [go_is_small]
  walk_at "wp"
  rfl
theorem w_is_seed {i : Int} : callH (wpF gg fs (n + 3)) F_is_seed [.int i] M Q X hq hx = Q (.bl (decide (1 ≤ i) && decide (i ≤ 2147483646))) M := by
  rw [go_is_seed]
  walk_at "wp"
theorem w_is_speed {i : Int} : callH (wpF gg fs (n + 3)) F_is_speed [.int i] M Q X hq hx = Q (.bl (decide (-16 ≤ i) && decide (i ≤ 16))) M := by
  rw [go_is_speed]
  walk_at "wp"
local macro_rules | `(tactic| walk_at "wp") => `(tactic| try simp -dsimp -implicitDefEqProofs only [↓Wp.u_var, ↓Wp.u_cst, ↓Wp.u_glb, ↓Wp.u_fld, ↓Wp.u_bin, ↓Wp.u_neg, ↓Wp.u_cmp, ↓Wp.u_chn, ↓Wp.u_isN, ↓Wp.u_notN, ↓Wp.u_isB, ↓Wp.u_and, ↓Wp.u_or, ↓Wp.u_not, ↓Wp.u_ite, ↓Wp.u_tup, ↓Wp.u_lst, ↓Wp.u_dct0, ↓Wp.u_dct1, ↓Wp.u_call, ↓Wp.u_make, ↓Wp.u_meth, ↓Wp.u_bi, ↓Wp.u_bm, ↓Wp.u_idx, ↓Wp.u_sl, ↓Wp.u_rev, ↓Wp.u_lc, ↓Wp.u_frz, ↓Wp.u_nil, ↓Wp.u_cons, ↓Wp.u_tval, ↓Wp.u_tand, ↓Wp.u_tor, ↓Wp.u_tnot, ↓Wp.u_tn, ↓Wp.u_ts, ↓Wp.u_on, ↓Wp.u_os, ↓Wp.u_of, ↓Wp.u_rng1, ↓Wp.u_rng2, ↓Wp.u_rng3, ↓Wp.u_enum, ↓Wp.u_zip, ↓Wp.u_tname, ↓Wp.u_tfld, ↓Wp.u_tidx, ↓Wp.u_ttup, ↓Wp.u_tnil, ↓Wp.u_tcons, ↓Wp.u_set, ↓Wp.u_par, ↓Wp.u_aug, ↓Wp.u_ife, ↓Wp.u_for, ↓Wp.u_whil, ↓Wp.u_ret, ↓Wp.u_retN, ↓Wp.u_raise, ↓Wp.u_exp, ↓Wp.u_pass, ↓Wp.u_brk, ↓Wp.u_cnt, ↓Wp.u_never, ↓Wp.u_try, ↓Wp.u_snil, ↓Wp.u_scons, ↓Wp.u_augf, ↓Wp.u_turnL, ↓Wp.u_turnF, ↓Wp.opt_un, ↓reduceIte, Wp.optH_some, Wp.optH_none, Wp.u_finF, Wp.u_finL, Wp.u_finD, Wp.vr, Wp.bO, Wp.iO, Wp.nonD, Wp.blD, Lw.wipeE, Wp.parE, Wp.deref_non, Wp.deref_bl, Wp.deref_int, Wp.deref_str, Wp.deref_tup, Wp.deref_lst, Wp.deref_ins, Wp.deref_dct, Wp.deref_scr, Wp.deref_loc, Lw.truthF, Lw.lenF, Lw.keyF, Lw.getK, Lw.putK, Lw.idxF, Wp.idx_str, Lw.slF, Lw.revF, Lw.addF, Lw.subF, Wp.mulF_ok, Wp.mulF_r, Wp.mulF_l, Wp.mulF_lst, Wp.mulF_tup, Wp.mulF_str, Lw.fdivF, Lw.modF, Lw.powF, Lw.binF, Lw.augF, Lw.eqF, Lw.flatD, Lw.eqFl, Lw.inF, Lw.intsF, Lw.cmpF, Lw.isiF, Lw.lookF, Lw.fldF, Lw.clsF, Lw.mthF, Lw.strsF, Lw.blsF, Lw.one, Lw.two, Lw.tupleF, Lw.listF, Lw.intF, L2.ixN, Lw.min2F, Lw.max2F, Lw.maxlF, Lw.minlF, Lw.sumF, Lw.strF, Lw.absF, Lw.lrngF, Lw.isisF, Lw.biF, Lw.splitF, Lw.upperF, Lw.getF, Lw.bmF, Lw.extF, Lw.popF, Lw.bmM, Lw.argF, Lw.lstAt, Lw.itemsF, Lw.gdOf, Lw.frzF, Lw.setF, Lw.putFld, Lw.putIdx, Lw.bmT, Lw.bmW, Lw.tgsFit, Wp.dropE_nil, Wp.dropE_cons, Lw.delL, Wp.atI_zero, Wp.atI_pos, Wp.atI_last, Lw.Mem.set_same, Lw.Mem.set_set, Lw.Mem.set_ne, Lw.Mem.del_set, Wp.rngL_length, Wp.join_signs, Wp.mem_swap, Wp.sizeLine_val, Wp.one_inj, List.cons_append, List.nil_append, Int.reduceAbs, Nat.reducePow, Nat.reduceMod, Nat.reduceDiv, Nat.reduceAdd, Nat.reduceMul, Nat.reduceSub, Nat.reduceLT, Nat.reduceLeDiff, Nat.reduceEqDiff, Int.reduceAdd, Int.reduceSub, Int.reduceMul, Int.reduceLT, Int.reduceLE, Int.reduceGT, Int.reduceGE, Int.reduceEq, Int.reduceNe, Int.reducePow, Int.reduceToNat, Int.reduceDiv, Int.reduceMod, reduceCtorEq, Int.cast_ofNat_Int, if_true, if_false, Bool.false_eq_true, Option.some.injEq, Option.map_some, Option.bind_some, Option.map_none, Option.bind_none, Option.join_some, Option.isSome_some, Option.isSome_none, List.length_range, List.map_cons, List.map_nil, List.length_cons, List.length_nil, List.length_map, List.set_cons_zero, List.set_cons_succ, List.mem_cons, List.not_mem_nil, List.all_cons, List.all_nil, List.any_cons, List.any_nil, Bool.and_eq_true, Bool.and_true, Bool.true_and, Bool.and_false, Bool.false_and, Bool.or_false, Bool.false_or, Bool.or_true, Bool.true_or, Bool.not_true, Bool.not_false, Bool.not_eq_true, Bool.not_eq_false', Bool.not_eq_true', decide_eq_true_eq, decide_eq_false_iff_not, decide_true, decide_false, and_true, true_and, and_false, false_and, or_true, true_or, or_false, false_or, not_true_eq_false, not_false_eq_true, eq_self, ite_self, ne_eq, Int.reduceNeg, List.cons_ne_nil, S.gc_MOST_SMALL, S.gc_LEAST_SMALL, S.gc_MOST_SIGNS, S.gc_FREE, S.gc_WALL, S.gc_MARKS, S.gc_CELL, S.gc_PRIME, S.gc_MOST_SPEED, S.gc_MANY_CELLS, S.gc_MOST_BODIES_worlds, S.gc_MOST_TICK, S.gc_MANY_SHARED, S.gc_MOST_SAID, S.gc_LINE_END, S.gc_LETTERS, S.gc_BLANK, S.gc_MOST_ROWS, S.gc_MOST_SIDE, S.gc_MOST_PULL, S.gc_MOST_PLAYERS, S.gc_MOST_KINDS, S.gc_MOST_BIRTHS, S.gm_Screen_show, S.gm_Screen_shown, S.gm_Screen_picture, S.gi_Ground, S.gi_Kind, S.gi_Game, S.gi_World, S.gi_Screen, S.gf_Ground, S.gf_Kind, S.gf_Game, S.gf_World, S.gf_Screen, S.gs_NoWorld_NoWorld, S.gcls, S.N_Ground, S.N_rows, S.N_wide, S.N_high, S.N_Kind, S.N_solid, S.N_pull, S.N_program, S.N_Game, S.N_players, S.N_ground, S.N_kinds, S.N_births, S.N_World, S.N_tick, S.N_seed, S.N_shared, S.N_count, S.N_bodies, S.N_said, S.N_Screen, S.N_played, S.N_drawing, S.N_times, S.N_NoWorld, S.N_show, S.N_shown, S.N_picture, S.N_Program, S.w_is_integer, S.w_is_within, S.w_is_sized, S.w_is_sized_non, S.allF_map, S.anyF_map, S.w_is_small, S.w_is_seed, S.w_is_speed])
local macro_rules | `(tactic| walk_at "wp*") => `(tactic| try simp -dsimp -implicitDefEqProofs only [↓Wp.u_var, ↓Wp.u_cst, ↓Wp.u_glb, ↓Wp.u_fld, ↓Wp.u_bin, ↓Wp.u_neg, ↓Wp.u_cmp, ↓Wp.u_chn, ↓Wp.u_isN, ↓Wp.u_notN, ↓Wp.u_isB, ↓Wp.u_and, ↓Wp.u_or, ↓Wp.u_not, ↓Wp.u_ite, ↓Wp.u_tup, ↓Wp.u_lst, ↓Wp.u_dct0, ↓Wp.u_dct1, ↓Wp.u_call, ↓Wp.u_make, ↓Wp.u_meth, ↓Wp.u_bi, ↓Wp.u_bm, ↓Wp.u_idx, ↓Wp.u_sl, ↓Wp.u_rev, ↓Wp.u_lc, ↓Wp.u_frz, ↓Wp.u_nil, ↓Wp.u_cons, ↓Wp.u_tval, ↓Wp.u_tand, ↓Wp.u_tor, ↓Wp.u_tnot, ↓Wp.u_tn, ↓Wp.u_ts, ↓Wp.u_on, ↓Wp.u_os, ↓Wp.u_of, ↓Wp.u_rng1, ↓Wp.u_rng2, ↓Wp.u_rng3, ↓Wp.u_enum, ↓Wp.u_zip, ↓Wp.u_tname, ↓Wp.u_tfld, ↓Wp.u_tidx, ↓Wp.u_ttup, ↓Wp.u_tnil, ↓Wp.u_tcons, ↓Wp.u_set, ↓Wp.u_par, ↓Wp.u_aug, ↓Wp.u_ife, ↓Wp.u_for, ↓Wp.u_whil, ↓Wp.u_ret, ↓Wp.u_retN, ↓Wp.u_raise, ↓Wp.u_exp, ↓Wp.u_pass, ↓Wp.u_brk, ↓Wp.u_cnt, ↓Wp.u_never, ↓Wp.u_try, ↓Wp.u_snil, ↓Wp.u_scons, ↓Wp.u_augf, ↓Wp.u_turnL, ↓Wp.u_turnF, ↓Wp.opt_un, ↓reduceIte, Wp.optH_some, Wp.optH_none, Wp.u_finF, Wp.u_finL, Wp.u_finD, Wp.vr, Wp.bO, Wp.iO, Wp.nonD, Wp.blD, Lw.wipeE, Wp.parE, Wp.deref_non, Wp.deref_bl, Wp.deref_int, Wp.deref_str, Wp.deref_tup, Wp.deref_lst, Wp.deref_ins, Wp.deref_dct, Wp.deref_scr, Wp.deref_loc, Lw.truthF, Lw.lenF, Lw.keyF, Lw.getK, Lw.putK, Lw.idxF, Wp.idx_str, Lw.slF, Lw.revF, Lw.addF, Lw.subF, Wp.mulF_ok, Wp.mulF_r, Wp.mulF_l, Wp.mulF_lst, Wp.mulF_tup, Wp.mulF_str, Lw.fdivF, Lw.modF, Lw.powF, Lw.binF, Lw.augF, Lw.eqF, Lw.flatD, Lw.eqFl, Lw.inF, Lw.intsF, Lw.cmpF, Lw.isiF, Lw.lookF, Lw.fldF, Lw.clsF, Lw.mthF, Lw.strsF, Lw.blsF, Lw.one, Lw.two, Lw.tupleF, Lw.listF, Lw.intF, L2.ixN, Lw.min2F, Lw.max2F, Lw.maxlF, Lw.minlF, Lw.sumF, Lw.strF, Lw.absF, Lw.lrngF, Lw.isisF, Lw.biF, Lw.splitF, Lw.upperF, Lw.getF, Lw.bmF, Lw.extF, Lw.popF, Lw.bmM, Lw.argF, Lw.lstAt, Lw.itemsF, Lw.gdOf, Lw.frzF, Lw.setF, Lw.putFld, Lw.putIdx, Lw.bmT, Lw.bmW, Lw.tgsFit, Wp.dropE_nil, Wp.dropE_cons, Lw.delL, Wp.atI_zero, Wp.atI_pos, Wp.atI_last, Lw.Mem.set_same, Lw.Mem.set_set, Lw.Mem.set_ne, Lw.Mem.del_set, Wp.rngL_length, Wp.join_signs, Wp.mem_swap, Wp.sizeLine_val, Wp.one_inj, List.cons_append, List.nil_append, Int.reduceAbs, Nat.reducePow, Nat.reduceMod, Nat.reduceDiv, Nat.reduceAdd, Nat.reduceMul, Nat.reduceSub, Nat.reduceLT, Nat.reduceLeDiff, Nat.reduceEqDiff, Int.reduceAdd, Int.reduceSub, Int.reduceMul, Int.reduceLT, Int.reduceLE, Int.reduceGT, Int.reduceGE, Int.reduceEq, Int.reduceNe, Int.reducePow, Int.reduceToNat, Int.reduceDiv, Int.reduceMod, reduceCtorEq, Int.cast_ofNat_Int, if_true, if_false, Bool.false_eq_true, Option.some.injEq, Option.map_some, Option.bind_some, Option.map_none, Option.bind_none, Option.join_some, Option.isSome_some, Option.isSome_none, List.length_range, List.map_cons, List.map_nil, List.length_cons, List.length_nil, List.length_map, List.set_cons_zero, List.set_cons_succ, List.mem_cons, List.not_mem_nil, List.all_cons, List.all_nil, List.any_cons, List.any_nil, Bool.and_eq_true, Bool.and_true, Bool.true_and, Bool.and_false, Bool.false_and, Bool.or_false, Bool.false_or, Bool.or_true, Bool.true_or, Bool.not_true, Bool.not_false, Bool.not_eq_true, Bool.not_eq_false', Bool.not_eq_true', decide_eq_true_eq, decide_eq_false_iff_not, decide_true, decide_false, and_true, true_and, and_false, false_and, or_true, true_or, or_false, false_or, not_true_eq_false, not_false_eq_true, eq_self, ite_self, ne_eq, Int.reduceNeg, List.cons_ne_nil, S.gc_MOST_SMALL, S.gc_LEAST_SMALL, S.gc_MOST_SIGNS, S.gc_FREE, S.gc_WALL, S.gc_MARKS, S.gc_CELL, S.gc_PRIME, S.gc_MOST_SPEED, S.gc_MANY_CELLS, S.gc_MOST_BODIES_worlds, S.gc_MOST_TICK, S.gc_MANY_SHARED, S.gc_MOST_SAID, S.gc_LINE_END, S.gc_LETTERS, S.gc_BLANK, S.gc_MOST_ROWS, S.gc_MOST_SIDE, S.gc_MOST_PULL, S.gc_MOST_PLAYERS, S.gc_MOST_KINDS, S.gc_MOST_BIRTHS, S.gm_Screen_show, S.gm_Screen_shown, S.gm_Screen_picture, S.gi_Ground, S.gi_Kind, S.gi_Game, S.gi_World, S.gi_Screen, S.gf_Ground, S.gf_Kind, S.gf_Game, S.gf_World, S.gf_Screen, S.gs_NoWorld_NoWorld, S.gcls, S.N_Ground, S.N_rows, S.N_wide, S.N_high, S.N_Kind, S.N_solid, S.N_pull, S.N_program, S.N_Game, S.N_players, S.N_ground, S.N_kinds, S.N_births, S.N_World, S.N_tick, S.N_seed, S.N_shared, S.N_count, S.N_bodies, S.N_said, S.N_Screen, S.N_played, S.N_drawing, S.N_times, S.N_NoWorld, S.N_show, S.N_shown, S.N_picture, S.N_Program, S.w_is_integer, S.w_is_within, S.w_is_sized, S.w_is_sized_non, S.allF_map, S.anyF_map, S.w_is_small, S.w_is_seed, S.w_is_speed, *])
theorem w_are_small {xs : List Int} {k : Int} (h : xs.length ≤ 16777216) : callH (wpF gg fs (n + 4)) F_are_small [.tup (xs.map .int), .int k] M Q X hq hx = Q (.bl (decide ((xs.length : Int) = k) && xs.all smallB)) M := by
  rw [go_are_small]
  walk_at "wp"
  rw [lcH_map xs .int (fun i => .bl (smallB i)) rfl trivial h fun x _ k => by
    walk_at "wp"]
  walk_at "wp"
  by_cases h : (xs.length : Int) = k
  · simp [h]
  · rw [if_neg (by omega)]
    simp [h]
end
end S

set_option Elab.async false
set_option linter.all false
set_option maxRecDepth 100000
set_option maxHeartbeats 4000000
/-! PB: the hand. -/
namespace S
open Lw Wp
open PySem (Addr)
local macro_rules | `(tactic| walk_at "wp") => `(tactic| try simp -dsimp -implicitDefEqProofs only [↓Wp.u_var, ↓Wp.u_cst, ↓Wp.u_glb, ↓Wp.u_fld, ↓Wp.u_bin, ↓Wp.u_neg, ↓Wp.u_cmp, ↓Wp.u_chn, ↓Wp.u_isN, ↓Wp.u_notN, ↓Wp.u_isB, ↓Wp.u_and, ↓Wp.u_or, ↓Wp.u_not, ↓Wp.u_ite, ↓Wp.u_tup, ↓Wp.u_lst, ↓Wp.u_dct0, ↓Wp.u_dct1, ↓Wp.u_call, ↓Wp.u_make, ↓Wp.u_meth, ↓Wp.u_bi, ↓Wp.u_bm, ↓Wp.u_idx, ↓Wp.u_sl, ↓Wp.u_rev, ↓Wp.u_lc, ↓Wp.u_frz, ↓Wp.u_nil, ↓Wp.u_cons, ↓Wp.u_tval, ↓Wp.u_tand, ↓Wp.u_tor, ↓Wp.u_tnot, ↓Wp.u_tn, ↓Wp.u_ts, ↓Wp.u_on, ↓Wp.u_os, ↓Wp.u_of, ↓Wp.u_rng1, ↓Wp.u_rng2, ↓Wp.u_rng3, ↓Wp.u_enum, ↓Wp.u_zip, ↓Wp.u_tname, ↓Wp.u_tfld, ↓Wp.u_tidx, ↓Wp.u_ttup, ↓Wp.u_tnil, ↓Wp.u_tcons, ↓Wp.u_set, ↓Wp.u_par, ↓Wp.u_aug, ↓Wp.u_ife, ↓Wp.u_for, ↓Wp.u_whil, ↓Wp.u_ret, ↓Wp.u_retN, ↓Wp.u_raise, ↓Wp.u_exp, ↓Wp.u_pass, ↓Wp.u_brk, ↓Wp.u_cnt, ↓Wp.u_never, ↓Wp.u_try, ↓Wp.u_snil, ↓Wp.u_scons, ↓Wp.u_augf, ↓Wp.u_turnL, ↓Wp.u_turnF, ↓Wp.opt_un, ↓reduceIte, Wp.optH_some, Wp.optH_none, Wp.u_finF, Wp.u_finL, Wp.u_finD, Wp.vr, Wp.bO, Wp.iO, Wp.nonD, Wp.blD, Lw.wipeE, Wp.parE, Wp.deref_non, Wp.deref_bl, Wp.deref_int, Wp.deref_str, Wp.deref_tup, Wp.deref_lst, Wp.deref_ins, Wp.deref_dct, Wp.deref_scr, Wp.deref_loc, Lw.truthF, Lw.lenF, Lw.keyF, Lw.getK, Lw.putK, Lw.idxF, Wp.idx_str, Lw.slF, Lw.revF, Lw.addF, Lw.subF, Wp.mulF_ok, Wp.mulF_r, Wp.mulF_l, Wp.mulF_lst, Wp.mulF_tup, Wp.mulF_str, Lw.fdivF, Lw.modF, Lw.powF, Lw.binF, Lw.augF, Lw.eqF, Lw.flatD, Lw.eqFl, Lw.inF, Lw.intsF, Lw.cmpF, Lw.isiF, Lw.lookF, Lw.fldF, Lw.clsF, Lw.mthF, Lw.strsF, Lw.blsF, Lw.one, Lw.two, Lw.tupleF, Lw.listF, Lw.intF, L2.ixN, Lw.min2F, Lw.max2F, Lw.maxlF, Lw.minlF, Lw.sumF, Lw.strF, Lw.absF, Lw.lrngF, Lw.isisF, Lw.biF, Lw.splitF, Lw.upperF, Lw.getF, Lw.bmF, Lw.extF, Lw.popF, Lw.bmM, Lw.argF, Lw.lstAt, Lw.itemsF, Lw.gdOf, Lw.frzF, Lw.setF, Lw.putFld, Lw.putIdx, Lw.bmT, Lw.bmW, Lw.tgsFit, Wp.dropE_nil, Wp.dropE_cons, Lw.delL, Wp.atI_zero, Wp.atI_pos, Wp.atI_last, Lw.Mem.set_same, Lw.Mem.set_set, Lw.Mem.set_ne, Lw.Mem.del_set, Wp.rngL_length, Wp.join_signs, Wp.mem_swap, Wp.sizeLine_val, Wp.one_inj, List.cons_append, List.nil_append, Int.reduceAbs, Nat.reducePow, Nat.reduceMod, Nat.reduceDiv, Nat.reduceAdd, Nat.reduceMul, Nat.reduceSub, Nat.reduceLT, Nat.reduceLeDiff, Nat.reduceEqDiff, Int.reduceAdd, Int.reduceSub, Int.reduceMul, Int.reduceLT, Int.reduceLE, Int.reduceGT, Int.reduceGE, Int.reduceEq, Int.reduceNe, Int.reducePow, Int.reduceToNat, Int.reduceDiv, Int.reduceMod, reduceCtorEq, Int.cast_ofNat_Int, if_true, if_false, Bool.false_eq_true, Option.some.injEq, Option.map_some, Option.bind_some, Option.map_none, Option.bind_none, Option.join_some, Option.isSome_some, Option.isSome_none, List.length_range, List.map_cons, List.map_nil, List.length_cons, List.length_nil, List.length_map, List.set_cons_zero, List.set_cons_succ, List.mem_cons, List.not_mem_nil, List.all_cons, List.all_nil, List.any_cons, List.any_nil, Bool.and_eq_true, Bool.and_true, Bool.true_and, Bool.and_false, Bool.false_and, Bool.or_false, Bool.false_or, Bool.or_true, Bool.true_or, Bool.not_true, Bool.not_false, Bool.not_eq_true, Bool.not_eq_false', Bool.not_eq_true', decide_eq_true_eq, decide_eq_false_iff_not, decide_true, decide_false, and_true, true_and, and_false, false_and, or_true, true_or, or_false, false_or, not_true_eq_false, not_false_eq_true, eq_self, ite_self, ne_eq, Int.reduceNeg, List.cons_ne_nil, S.gc_MOST_SMALL, S.gc_LEAST_SMALL, S.gc_MOST_SIGNS, S.gc_FREE, S.gc_WALL, S.gc_MARKS, S.gc_CELL, S.gc_PRIME, S.gc_MOST_SPEED, S.gc_MANY_CELLS, S.gc_MOST_BODIES_worlds, S.gc_MOST_TICK, S.gc_MANY_SHARED, S.gc_MOST_SAID, S.gc_LINE_END, S.gc_LETTERS, S.gc_BLANK, S.gc_MOST_ROWS, S.gc_MOST_SIDE, S.gc_MOST_PULL, S.gc_MOST_PLAYERS, S.gc_MOST_KINDS, S.gc_MOST_BIRTHS, S.gm_Screen_show, S.gm_Screen_shown, S.gm_Screen_picture, S.gi_Ground, S.gi_Kind, S.gi_Game, S.gi_World, S.gi_Screen, S.gf_Ground, S.gf_Kind, S.gf_Game, S.gf_World, S.gf_Screen, S.gs_NoWorld_NoWorld, S.gcls, S.N_Ground, S.N_rows, S.N_wide, S.N_high, S.N_Kind, S.N_solid, S.N_pull, S.N_program, S.N_Game, S.N_players, S.N_ground, S.N_kinds, S.N_births, S.N_World, S.N_tick, S.N_seed, S.N_shared, S.N_count, S.N_bodies, S.N_said, S.N_Screen, S.N_played, S.N_drawing, S.N_times, S.N_NoWorld, S.N_show, S.N_shown, S.N_picture, S.N_Program, S.w_is_integer, S.w_is_within, S.w_is_sized, S.w_is_sized_non, S.allF_map, S.anyF_map, S.w_is_small, S.w_is_seed, S.w_is_speed, S.w_are_small])
local macro_rules | `(tactic| walk_at "wp*") => `(tactic| try simp -dsimp -implicitDefEqProofs only [↓Wp.u_var, ↓Wp.u_cst, ↓Wp.u_glb, ↓Wp.u_fld, ↓Wp.u_bin, ↓Wp.u_neg, ↓Wp.u_cmp, ↓Wp.u_chn, ↓Wp.u_isN, ↓Wp.u_notN, ↓Wp.u_isB, ↓Wp.u_and, ↓Wp.u_or, ↓Wp.u_not, ↓Wp.u_ite, ↓Wp.u_tup, ↓Wp.u_lst, ↓Wp.u_dct0, ↓Wp.u_dct1, ↓Wp.u_call, ↓Wp.u_make, ↓Wp.u_meth, ↓Wp.u_bi, ↓Wp.u_bm, ↓Wp.u_idx, ↓Wp.u_sl, ↓Wp.u_rev, ↓Wp.u_lc, ↓Wp.u_frz, ↓Wp.u_nil, ↓Wp.u_cons, ↓Wp.u_tval, ↓Wp.u_tand, ↓Wp.u_tor, ↓Wp.u_tnot, ↓Wp.u_tn, ↓Wp.u_ts, ↓Wp.u_on, ↓Wp.u_os, ↓Wp.u_of, ↓Wp.u_rng1, ↓Wp.u_rng2, ↓Wp.u_rng3, ↓Wp.u_enum, ↓Wp.u_zip, ↓Wp.u_tname, ↓Wp.u_tfld, ↓Wp.u_tidx, ↓Wp.u_ttup, ↓Wp.u_tnil, ↓Wp.u_tcons, ↓Wp.u_set, ↓Wp.u_par, ↓Wp.u_aug, ↓Wp.u_ife, ↓Wp.u_for, ↓Wp.u_whil, ↓Wp.u_ret, ↓Wp.u_retN, ↓Wp.u_raise, ↓Wp.u_exp, ↓Wp.u_pass, ↓Wp.u_brk, ↓Wp.u_cnt, ↓Wp.u_never, ↓Wp.u_try, ↓Wp.u_snil, ↓Wp.u_scons, ↓Wp.u_augf, ↓Wp.u_turnL, ↓Wp.u_turnF, ↓Wp.opt_un, ↓reduceIte, Wp.optH_some, Wp.optH_none, Wp.u_finF, Wp.u_finL, Wp.u_finD, Wp.vr, Wp.bO, Wp.iO, Wp.nonD, Wp.blD, Lw.wipeE, Wp.parE, Wp.deref_non, Wp.deref_bl, Wp.deref_int, Wp.deref_str, Wp.deref_tup, Wp.deref_lst, Wp.deref_ins, Wp.deref_dct, Wp.deref_scr, Wp.deref_loc, Lw.truthF, Lw.lenF, Lw.keyF, Lw.getK, Lw.putK, Lw.idxF, Wp.idx_str, Lw.slF, Lw.revF, Lw.addF, Lw.subF, Wp.mulF_ok, Wp.mulF_r, Wp.mulF_l, Wp.mulF_lst, Wp.mulF_tup, Wp.mulF_str, Lw.fdivF, Lw.modF, Lw.powF, Lw.binF, Lw.augF, Lw.eqF, Lw.flatD, Lw.eqFl, Lw.inF, Lw.intsF, Lw.cmpF, Lw.isiF, Lw.lookF, Lw.fldF, Lw.clsF, Lw.mthF, Lw.strsF, Lw.blsF, Lw.one, Lw.two, Lw.tupleF, Lw.listF, Lw.intF, L2.ixN, Lw.min2F, Lw.max2F, Lw.maxlF, Lw.minlF, Lw.sumF, Lw.strF, Lw.absF, Lw.lrngF, Lw.isisF, Lw.biF, Lw.splitF, Lw.upperF, Lw.getF, Lw.bmF, Lw.extF, Lw.popF, Lw.bmM, Lw.argF, Lw.lstAt, Lw.itemsF, Lw.gdOf, Lw.frzF, Lw.setF, Lw.putFld, Lw.putIdx, Lw.bmT, Lw.bmW, Lw.tgsFit, Wp.dropE_nil, Wp.dropE_cons, Lw.delL, Wp.atI_zero, Wp.atI_pos, Wp.atI_last, Lw.Mem.set_same, Lw.Mem.set_set, Lw.Mem.set_ne, Lw.Mem.del_set, Wp.rngL_length, Wp.join_signs, Wp.mem_swap, Wp.sizeLine_val, Wp.one_inj, List.cons_append, List.nil_append, Int.reduceAbs, Nat.reducePow, Nat.reduceMod, Nat.reduceDiv, Nat.reduceAdd, Nat.reduceMul, Nat.reduceSub, Nat.reduceLT, Nat.reduceLeDiff, Nat.reduceEqDiff, Int.reduceAdd, Int.reduceSub, Int.reduceMul, Int.reduceLT, Int.reduceLE, Int.reduceGT, Int.reduceGE, Int.reduceEq, Int.reduceNe, Int.reducePow, Int.reduceToNat, Int.reduceDiv, Int.reduceMod, reduceCtorEq, Int.cast_ofNat_Int, if_true, if_false, Bool.false_eq_true, Option.some.injEq, Option.map_some, Option.bind_some, Option.map_none, Option.bind_none, Option.join_some, Option.isSome_some, Option.isSome_none, List.length_range, List.map_cons, List.map_nil, List.length_cons, List.length_nil, List.length_map, List.set_cons_zero, List.set_cons_succ, List.mem_cons, List.not_mem_nil, List.all_cons, List.all_nil, List.any_cons, List.any_nil, Bool.and_eq_true, Bool.and_true, Bool.true_and, Bool.and_false, Bool.false_and, Bool.or_false, Bool.false_or, Bool.or_true, Bool.true_or, Bool.not_true, Bool.not_false, Bool.not_eq_true, Bool.not_eq_false', Bool.not_eq_true', decide_eq_true_eq, decide_eq_false_iff_not, decide_true, decide_false, and_true, true_and, and_false, false_and, or_true, true_or, or_false, false_or, not_true_eq_false, not_false_eq_true, eq_self, ite_self, ne_eq, Int.reduceNeg, List.cons_ne_nil, S.gc_MOST_SMALL, S.gc_LEAST_SMALL, S.gc_MOST_SIGNS, S.gc_FREE, S.gc_WALL, S.gc_MARKS, S.gc_CELL, S.gc_PRIME, S.gc_MOST_SPEED, S.gc_MANY_CELLS, S.gc_MOST_BODIES_worlds, S.gc_MOST_TICK, S.gc_MANY_SHARED, S.gc_MOST_SAID, S.gc_LINE_END, S.gc_LETTERS, S.gc_BLANK, S.gc_MOST_ROWS, S.gc_MOST_SIDE, S.gc_MOST_PULL, S.gc_MOST_PLAYERS, S.gc_MOST_KINDS, S.gc_MOST_BIRTHS, S.gm_Screen_show, S.gm_Screen_shown, S.gm_Screen_picture, S.gi_Ground, S.gi_Kind, S.gi_Game, S.gi_World, S.gi_Screen, S.gf_Ground, S.gf_Kind, S.gf_Game, S.gf_World, S.gf_Screen, S.gs_NoWorld_NoWorld, S.gcls, S.N_Ground, S.N_rows, S.N_wide, S.N_high, S.N_Kind, S.N_solid, S.N_pull, S.N_program, S.N_Game, S.N_players, S.N_ground, S.N_kinds, S.N_births, S.N_World, S.N_tick, S.N_seed, S.N_shared, S.N_count, S.N_bodies, S.N_said, S.N_Screen, S.N_played, S.N_drawing, S.N_times, S.N_NoWorld, S.N_show, S.N_shown, S.N_picture, S.N_Program, S.w_is_integer, S.w_is_within, S.w_is_sized, S.w_is_sized_non, S.allF_map, S.anyF_map, S.w_is_small, S.w_is_seed, S.w_is_speed, S.w_are_small, *])
structure Hand where
  ns : List Int
  k : Int
  st : Int
  s : Int
  c : Int
def handMO (h : Hand) : MO := .lst [.lst (h.ns.map .int), .int h.k, .int h.st, .int h.s, .int h.c]
structure HandOK (h : Hand) : Prop where
  k : 0 ≤ h.k
  st : 0 ≤ h.st
  s : 0 ≤ h.s ∧ h.s < 2147483647
  c : 0 ≤ h.c
section
variable {n : Nat} {M : Mem} {Q : DK1} {X : XK1} {hq : Hid Q} {hx hx' : Hid X}
theorem take_spec {a : Addr} {h : Hand} {m : Int} (ha : M a = some (handMO h)) (hk : HandOK h) (hm : 0 < m) (hm2 : m < 1073741824)
    (k : ∀ v h', HandOK h' → 0 ≤ v → v < m → Q (.int v) (M.set a (handMO h'))) : callH (wpF gg fs (n + 1)) F_law_take [.loc a, .int m] M Q X hq hx := by
  obtain ⟨ns, i, st, s, c⟩ := h
  obtain ⟨k1, k2, ⟨k3, k4⟩, k5⟩ := hk
  dsimp only at k1 k2 k3 k4 k5
  simp only [handMO] at ha
  have end_ : ∀ s' i' : Int, 0 ≤ i' → 0 ≤ s' → s' < 2147483647 → ∃ v s2, 0 ≤ v ∧ v < m ∧ 0 ≤ s2 ∧ s2 < 2147483647 ∧
      (s' * 69621 + 7919 * (c + 1)) % 2147483647 = s2 ∧ MulOk s2 (s2 / 1009 + 69621) ∧ MulOk ((s2 * (s2 / 1009 + 69621)) % 2147483647) ((s2 * (s2 / 1009 + 69621)) % 2147483647 / 2003 + 40692) ∧
      ((s2 * (s2 / 1009 + 69621)) % 2147483647 * ((s2 * (s2 / 1009 + 69621)) % 2147483647 / 2003 + 40692)) % 2147483399 / 16 % m = v := by
    intro s' i' _ _ _
    refine ⟨_, _, Int.emod_nonneg _ (by omega), Int.emod_lt_of_pos _ hm, Int.emod_nonneg _ (by decide), Int.emod_lt_of_pos _ (by decide), rfl, .inl ⟨by omega, by omega⟩, .inl ⟨by omega, by omega⟩, rfl⟩
  have qk : ∀ v i' st' s' c', 0 ≤ v → v < m → 0 ≤ i' → 0 ≤ st' → 0 ≤ s' → s' < 2147483647 → 0 ≤ c' → Q (.int v) (M.set a (.lst [.lst (ns.map .int), .int i', .int st', .int s', .int c'])) := by
    intro v i' st' s' c' h1 h2 h3 h4 h5 h6 h7
    exact k v ⟨ns, i', st', s', c'⟩ ⟨h3, h4, ⟨h5, h6⟩, h7⟩ h1 h2
  clear k
  rw [go_law_take]
  by_cases e1 : st = 0
  · subst e1
    by_cases e2 : i < ns.length
    · obtain ⟨x, _, _, hx⟩ := atI_map (f := D.int) k1 e2
      by_cases e3 : 1000000000000000000 ≤ x
      · have : 0 < x := by omega
        walk_at "wp*"
        exact qk _ _ _ _ _ (Int.emod_nonneg _ (by omega)) (Int.emod_lt_of_pos _ hm) (by omega) (Int.ediv_nonneg (by omega) (by omega)) (by omega) (by omega) (by omega)
      · obtain ⟨v, s2, h1, h2, h3, h4, h5, h6, h7, h8⟩ := end_ ((s * 48271 + x % 2147483647 + 1) % 2147483647) (i + 1) (by omega) (by omega) (by omega)
        walk_at "wp*"
        exact qk _ _ _ _ _ h1 h2 (by omega) (by omega) (by omega) (by omega) (by omega)
    · obtain ⟨v, s2, h1, h2, h3, h4, h5, h6, h7, h8⟩ := end_ s i k1 k3 k4
      walk_at "wp*"
      exact qk _ _ _ _ _ h1 h2 (by omega) (by omega) (by omega) (by omega) (by omega)
  · have : 0 < st := by omega
    walk_at "wp*"
    exact qk _ _ _ _ _ (Int.emod_nonneg _ (by omega)) (Int.emod_lt_of_pos _ hm) (by omega) (Int.ediv_nonneg (by omega) (by omega)) (by omega) (by omega) (by omega)
theorem pick_spec {a : Addr} {h : Hand} {xs : List D} (ha : M a = some (handMO h)) (hk : HandOK h) (hx : xs ≠ []) (hl : xs.length < 1073741824)
    (k : ∀ x h', x ∈ xs → HandOK h' → Q x (M.set a (handMO h'))) : callH (wpF gg fs (n + 2)) F_law_pick [.loc a, .lst xs] M Q X hq hx' := by
  rw [go_law_pick]
  walk_at "wp"
  have : 0 < xs.length := List.length_pos_iff.mpr hx
  refine take_spec ha hk (by omega) (by omega) fun v h1 hk1 v0 v1 => ?_
  obtain ⟨x, hm, _, e⟩ := atI_some v0 v1
  walk_at "wp"
  simp only [e]
  walk_at "wp"
  exact k x h1 hm hk1
theorem wide_spec {a : Addr} {h : Hand} (ha : M a = some (handMO h)) (hk : HandOK h)
    (k : ∀ i h', smallB i = true → HandOK h' → Q (.int i) (M.set a (handMO h'))) : callH (wpF gg fs (n + 2)) F_law_wide [.loc a] M Q X hq hx := by
  rw [go_law_wide]
  walk_at "wp"
  refine take_spec ha hk (by decide) (by decide) fun v h1 hk1 v0 v1 => ?_
  walk_at "wp"
  refine take_spec Mem.set_same hk1 (by decide) (by decide) fun w h2 hk2 w0 w1 => ?_
  walk_at "wp"
  refine k _ _ ?_ hk2
  simp only [smallB, Bool.and_eq_true, decide_eq_true_eq]
  omega
theorem small_spec {a : Addr} {h : Hand} (ha : M a = some (handMO h)) (hk : HandOK h)
    (k : ∀ i h', smallB i = true → HandOK h' → Q (.int i) (M.set a (handMO h'))) : callH (wpF gg fs (n + 3)) F_law_small [.loc a] M Q X hq hx := by
  have sm : ∀ i : Int, -2147483648 ≤ i → i ≤ 2147483647 → smallB i = true := fun i h1 h2 => by
    simp only [smallB, Bool.and_eq_true, decide_eq_true_eq]
    exact ⟨h1, h2⟩
  rw [go_law_small]
  walk_at "wp"
  refine take_spec ha hk (by decide) (by decide) fun v h1 hk1 v0 v1 => ?_
  walk_at "wp"
  split
  · refine wide_spec Mem.set_same hk1 fun i h2 hi hk2 => ?_
    walk_at "wp"
    exact k _ _ hi hk2
  · split
    · refine pick_spec Mem.set_same hk1 (by simp) (by decide) fun x h2 hx hk2 => ?_
      walk_at "wp"
      simp only [List.mem_cons, List.not_mem_nil, or_false] at hx
      rcases hx with rfl | rfl | rfl | rfl | rfl | rfl | rfl | rfl | rfl <;> exact k _ _ (by decide) hk2
    · split
      · refine take_spec Mem.set_same hk1 (by decide) (by decide) fun w h2 hk2 w0 w1 => ?_
        walk_at "wp"
        exact k _ _ (sm _ (by omega) (by omega)) hk2
      · refine take_spec Mem.set_same hk1 (by decide) (by decide) fun w h2 hk2 w0 w1 => ?_
        walk_at "wp"
        exact k _ _ (sm _ (by omega) (by omega)) hk2
theorem seed_spec {a : Addr} {h : Hand} (ha : M a = some (handMO h)) (hk : HandOK h)
    (k : ∀ i h', 1 ≤ i → i ≤ 2147483646 → HandOK h' → Q (.int i) (M.set a (handMO h'))) : callH (wpF gg fs (n + 3)) F_law_seed [.loc a] M Q X hq hx := by
  rw [go_law_seed]
  walk_at "wp"
  refine take_spec ha hk (by decide) (by decide) fun v h1 hk1 v0 v1 => ?_
  walk_at "wp"
  split
  · refine pick_spec Mem.set_same hk1 (by simp) (by decide) fun x h2 hx hk2 => ?_
    walk_at "wp"
    simp only [List.mem_cons, List.not_mem_nil, or_false] at hx
    rcases hx with rfl | rfl | rfl | rfl | rfl <;> exact k _ _ (by decide) (by decide) hk2
  · refine take_spec Mem.set_same hk1 (by decide) (by decide) fun w h2 hk2 w0 w1 => ?_
    walk_at "wp"
    refine take_spec Mem.set_same hk2 (by decide) (by decide) fun u h3 hk3 u0 u1 => ?_
    walk_at "wp"
    exact k _ _ (by omega) (by omega) hk3
end
end S

set_option Elab.async false
set_option linter.all false
set_option maxRecDepth 100000
set_option maxHeartbeats 4000000
/-! PC: what the law draws: grounds, kinds. -/
namespace S
open Lw Wp
open PySem (Addr)
local macro_rules | `(tactic| walk_at "wp") => `(tactic| try simp -dsimp -implicitDefEqProofs only [↓Wp.u_var, ↓Wp.u_cst, ↓Wp.u_glb, ↓Wp.u_fld, ↓Wp.u_bin, ↓Wp.u_neg, ↓Wp.u_cmp, ↓Wp.u_chn, ↓Wp.u_isN, ↓Wp.u_notN, ↓Wp.u_isB, ↓Wp.u_and, ↓Wp.u_or, ↓Wp.u_not, ↓Wp.u_ite, ↓Wp.u_tup, ↓Wp.u_lst, ↓Wp.u_dct0, ↓Wp.u_dct1, ↓Wp.u_call, ↓Wp.u_make, ↓Wp.u_meth, ↓Wp.u_bi, ↓Wp.u_bm, ↓Wp.u_idx, ↓Wp.u_sl, ↓Wp.u_rev, ↓Wp.u_lc, ↓Wp.u_frz, ↓Wp.u_nil, ↓Wp.u_cons, ↓Wp.u_tval, ↓Wp.u_tand, ↓Wp.u_tor, ↓Wp.u_tnot, ↓Wp.u_tn, ↓Wp.u_ts, ↓Wp.u_on, ↓Wp.u_os, ↓Wp.u_of, ↓Wp.u_rng1, ↓Wp.u_rng2, ↓Wp.u_rng3, ↓Wp.u_enum, ↓Wp.u_zip, ↓Wp.u_tname, ↓Wp.u_tfld, ↓Wp.u_tidx, ↓Wp.u_ttup, ↓Wp.u_tnil, ↓Wp.u_tcons, ↓Wp.u_set, ↓Wp.u_par, ↓Wp.u_aug, ↓Wp.u_ife, ↓Wp.u_for, ↓Wp.u_whil, ↓Wp.u_ret, ↓Wp.u_retN, ↓Wp.u_raise, ↓Wp.u_exp, ↓Wp.u_pass, ↓Wp.u_brk, ↓Wp.u_cnt, ↓Wp.u_never, ↓Wp.u_try, ↓Wp.u_snil, ↓Wp.u_scons, ↓Wp.u_augf, ↓Wp.u_turnL, ↓Wp.u_turnF, ↓Wp.opt_un, ↓reduceIte, Wp.optH_some, Wp.optH_none, Wp.u_finF, Wp.u_finL, Wp.u_finD, Wp.vr, Wp.bO, Wp.iO, Wp.nonD, Wp.blD, Lw.wipeE, Wp.parE, Wp.deref_non, Wp.deref_bl, Wp.deref_int, Wp.deref_str, Wp.deref_tup, Wp.deref_lst, Wp.deref_ins, Wp.deref_dct, Wp.deref_scr, Wp.deref_loc, Lw.truthF, Lw.lenF, Lw.keyF, Lw.getK, Lw.putK, Lw.idxF, Wp.idx_str, Lw.slF, Lw.revF, Lw.addF, Lw.subF, Wp.mulF_ok, Wp.mulF_r, Wp.mulF_l, Wp.mulF_lst, Wp.mulF_tup, Wp.mulF_str, Lw.fdivF, Lw.modF, Lw.powF, Lw.binF, Lw.augF, Lw.eqF, Lw.flatD, Lw.eqFl, Lw.inF, Lw.intsF, Lw.cmpF, Lw.isiF, Lw.lookF, Lw.fldF, Lw.clsF, Lw.mthF, Lw.strsF, Lw.blsF, Lw.one, Lw.two, Lw.tupleF, Lw.listF, Lw.intF, L2.ixN, Lw.min2F, Lw.max2F, Lw.maxlF, Lw.minlF, Lw.sumF, Lw.strF, Lw.absF, Lw.lrngF, Lw.isisF, Lw.biF, Lw.splitF, Lw.upperF, Lw.getF, Lw.bmF, Lw.extF, Lw.popF, Lw.bmM, Lw.argF, Lw.lstAt, Lw.itemsF, Lw.gdOf, Lw.frzF, Lw.setF, Lw.putFld, Lw.putIdx, Lw.bmT, Lw.bmW, Lw.tgsFit, Wp.dropE_nil, Wp.dropE_cons, Lw.delL, Wp.atI_zero, Wp.atI_pos, Wp.atI_last, Lw.Mem.set_same, Lw.Mem.set_set, Lw.Mem.set_ne, Lw.Mem.del_set, Wp.rngL_length, Wp.join_signs, Wp.mem_swap, Wp.sizeLine_val, Wp.one_inj, List.cons_append, List.nil_append, Int.reduceAbs, Nat.reducePow, Nat.reduceMod, Nat.reduceDiv, Nat.reduceAdd, Nat.reduceMul, Nat.reduceSub, Nat.reduceLT, Nat.reduceLeDiff, Nat.reduceEqDiff, Int.reduceAdd, Int.reduceSub, Int.reduceMul, Int.reduceLT, Int.reduceLE, Int.reduceGT, Int.reduceGE, Int.reduceEq, Int.reduceNe, Int.reducePow, Int.reduceToNat, Int.reduceDiv, Int.reduceMod, reduceCtorEq, Int.cast_ofNat_Int, if_true, if_false, Bool.false_eq_true, Option.some.injEq, Option.map_some, Option.bind_some, Option.map_none, Option.bind_none, Option.join_some, Option.isSome_some, Option.isSome_none, List.length_range, List.map_cons, List.map_nil, List.length_cons, List.length_nil, List.length_map, List.set_cons_zero, List.set_cons_succ, List.mem_cons, List.not_mem_nil, List.all_cons, List.all_nil, List.any_cons, List.any_nil, Bool.and_eq_true, Bool.and_true, Bool.true_and, Bool.and_false, Bool.false_and, Bool.or_false, Bool.false_or, Bool.or_true, Bool.true_or, Bool.not_true, Bool.not_false, Bool.not_eq_true, Bool.not_eq_false', Bool.not_eq_true', decide_eq_true_eq, decide_eq_false_iff_not, decide_true, decide_false, and_true, true_and, and_false, false_and, or_true, true_or, or_false, false_or, not_true_eq_false, not_false_eq_true, eq_self, ite_self, ne_eq, Int.reduceNeg, List.cons_ne_nil, S.gc_MOST_SMALL, S.gc_LEAST_SMALL, S.gc_MOST_SIGNS, S.gc_FREE, S.gc_WALL, S.gc_MARKS, S.gc_CELL, S.gc_PRIME, S.gc_MOST_SPEED, S.gc_MANY_CELLS, S.gc_MOST_BODIES_worlds, S.gc_MOST_TICK, S.gc_MANY_SHARED, S.gc_MOST_SAID, S.gc_LINE_END, S.gc_LETTERS, S.gc_BLANK, S.gc_MOST_ROWS, S.gc_MOST_SIDE, S.gc_MOST_PULL, S.gc_MOST_PLAYERS, S.gc_MOST_KINDS, S.gc_MOST_BIRTHS, S.gm_Screen_show, S.gm_Screen_shown, S.gm_Screen_picture, S.gi_Ground, S.gi_Kind, S.gi_Game, S.gi_World, S.gi_Screen, S.gf_Ground, S.gf_Kind, S.gf_Game, S.gf_World, S.gf_Screen, S.gs_NoWorld_NoWorld, S.gcls, S.N_Ground, S.N_rows, S.N_wide, S.N_high, S.N_Kind, S.N_solid, S.N_pull, S.N_program, S.N_Game, S.N_players, S.N_ground, S.N_kinds, S.N_births, S.N_World, S.N_tick, S.N_seed, S.N_shared, S.N_count, S.N_bodies, S.N_said, S.N_Screen, S.N_played, S.N_drawing, S.N_times, S.N_NoWorld, S.N_show, S.N_shown, S.N_picture, S.N_Program, S.w_is_integer, S.w_is_within, S.w_is_sized, S.w_is_sized_non, S.allF_map, S.anyF_map, S.w_is_small, S.w_is_seed, S.w_is_speed, S.w_are_small])
local macro_rules | `(tactic| walk_at "wp*") => `(tactic| try simp -dsimp -implicitDefEqProofs only [↓Wp.u_var, ↓Wp.u_cst, ↓Wp.u_glb, ↓Wp.u_fld, ↓Wp.u_bin, ↓Wp.u_neg, ↓Wp.u_cmp, ↓Wp.u_chn, ↓Wp.u_isN, ↓Wp.u_notN, ↓Wp.u_isB, ↓Wp.u_and, ↓Wp.u_or, ↓Wp.u_not, ↓Wp.u_ite, ↓Wp.u_tup, ↓Wp.u_lst, ↓Wp.u_dct0, ↓Wp.u_dct1, ↓Wp.u_call, ↓Wp.u_make, ↓Wp.u_meth, ↓Wp.u_bi, ↓Wp.u_bm, ↓Wp.u_idx, ↓Wp.u_sl, ↓Wp.u_rev, ↓Wp.u_lc, ↓Wp.u_frz, ↓Wp.u_nil, ↓Wp.u_cons, ↓Wp.u_tval, ↓Wp.u_tand, ↓Wp.u_tor, ↓Wp.u_tnot, ↓Wp.u_tn, ↓Wp.u_ts, ↓Wp.u_on, ↓Wp.u_os, ↓Wp.u_of, ↓Wp.u_rng1, ↓Wp.u_rng2, ↓Wp.u_rng3, ↓Wp.u_enum, ↓Wp.u_zip, ↓Wp.u_tname, ↓Wp.u_tfld, ↓Wp.u_tidx, ↓Wp.u_ttup, ↓Wp.u_tnil, ↓Wp.u_tcons, ↓Wp.u_set, ↓Wp.u_par, ↓Wp.u_aug, ↓Wp.u_ife, ↓Wp.u_for, ↓Wp.u_whil, ↓Wp.u_ret, ↓Wp.u_retN, ↓Wp.u_raise, ↓Wp.u_exp, ↓Wp.u_pass, ↓Wp.u_brk, ↓Wp.u_cnt, ↓Wp.u_never, ↓Wp.u_try, ↓Wp.u_snil, ↓Wp.u_scons, ↓Wp.u_augf, ↓Wp.u_turnL, ↓Wp.u_turnF, ↓Wp.opt_un, ↓reduceIte, Wp.optH_some, Wp.optH_none, Wp.u_finF, Wp.u_finL, Wp.u_finD, Wp.vr, Wp.bO, Wp.iO, Wp.nonD, Wp.blD, Lw.wipeE, Wp.parE, Wp.deref_non, Wp.deref_bl, Wp.deref_int, Wp.deref_str, Wp.deref_tup, Wp.deref_lst, Wp.deref_ins, Wp.deref_dct, Wp.deref_scr, Wp.deref_loc, Lw.truthF, Lw.lenF, Lw.keyF, Lw.getK, Lw.putK, Lw.idxF, Wp.idx_str, Lw.slF, Lw.revF, Lw.addF, Lw.subF, Wp.mulF_ok, Wp.mulF_r, Wp.mulF_l, Wp.mulF_lst, Wp.mulF_tup, Wp.mulF_str, Lw.fdivF, Lw.modF, Lw.powF, Lw.binF, Lw.augF, Lw.eqF, Lw.flatD, Lw.eqFl, Lw.inF, Lw.intsF, Lw.cmpF, Lw.isiF, Lw.lookF, Lw.fldF, Lw.clsF, Lw.mthF, Lw.strsF, Lw.blsF, Lw.one, Lw.two, Lw.tupleF, Lw.listF, Lw.intF, L2.ixN, Lw.min2F, Lw.max2F, Lw.maxlF, Lw.minlF, Lw.sumF, Lw.strF, Lw.absF, Lw.lrngF, Lw.isisF, Lw.biF, Lw.splitF, Lw.upperF, Lw.getF, Lw.bmF, Lw.extF, Lw.popF, Lw.bmM, Lw.argF, Lw.lstAt, Lw.itemsF, Lw.gdOf, Lw.frzF, Lw.setF, Lw.putFld, Lw.putIdx, Lw.bmT, Lw.bmW, Lw.tgsFit, Wp.dropE_nil, Wp.dropE_cons, Lw.delL, Wp.atI_zero, Wp.atI_pos, Wp.atI_last, Lw.Mem.set_same, Lw.Mem.set_set, Lw.Mem.set_ne, Lw.Mem.del_set, Wp.rngL_length, Wp.join_signs, Wp.mem_swap, Wp.sizeLine_val, Wp.one_inj, List.cons_append, List.nil_append, Int.reduceAbs, Nat.reducePow, Nat.reduceMod, Nat.reduceDiv, Nat.reduceAdd, Nat.reduceMul, Nat.reduceSub, Nat.reduceLT, Nat.reduceLeDiff, Nat.reduceEqDiff, Int.reduceAdd, Int.reduceSub, Int.reduceMul, Int.reduceLT, Int.reduceLE, Int.reduceGT, Int.reduceGE, Int.reduceEq, Int.reduceNe, Int.reducePow, Int.reduceToNat, Int.reduceDiv, Int.reduceMod, reduceCtorEq, Int.cast_ofNat_Int, if_true, if_false, Bool.false_eq_true, Option.some.injEq, Option.map_some, Option.bind_some, Option.map_none, Option.bind_none, Option.join_some, Option.isSome_some, Option.isSome_none, List.length_range, List.map_cons, List.map_nil, List.length_cons, List.length_nil, List.length_map, List.set_cons_zero, List.set_cons_succ, List.mem_cons, List.not_mem_nil, List.all_cons, List.all_nil, List.any_cons, List.any_nil, Bool.and_eq_true, Bool.and_true, Bool.true_and, Bool.and_false, Bool.false_and, Bool.or_false, Bool.false_or, Bool.or_true, Bool.true_or, Bool.not_true, Bool.not_false, Bool.not_eq_true, Bool.not_eq_false', Bool.not_eq_true', decide_eq_true_eq, decide_eq_false_iff_not, decide_true, decide_false, and_true, true_and, and_false, false_and, or_true, true_or, or_false, false_or, not_true_eq_false, not_false_eq_true, eq_self, ite_self, ne_eq, Int.reduceNeg, List.cons_ne_nil, S.gc_MOST_SMALL, S.gc_LEAST_SMALL, S.gc_MOST_SIGNS, S.gc_FREE, S.gc_WALL, S.gc_MARKS, S.gc_CELL, S.gc_PRIME, S.gc_MOST_SPEED, S.gc_MANY_CELLS, S.gc_MOST_BODIES_worlds, S.gc_MOST_TICK, S.gc_MANY_SHARED, S.gc_MOST_SAID, S.gc_LINE_END, S.gc_LETTERS, S.gc_BLANK, S.gc_MOST_ROWS, S.gc_MOST_SIDE, S.gc_MOST_PULL, S.gc_MOST_PLAYERS, S.gc_MOST_KINDS, S.gc_MOST_BIRTHS, S.gm_Screen_show, S.gm_Screen_shown, S.gm_Screen_picture, S.gi_Ground, S.gi_Kind, S.gi_Game, S.gi_World, S.gi_Screen, S.gf_Ground, S.gf_Kind, S.gf_Game, S.gf_World, S.gf_Screen, S.gs_NoWorld_NoWorld, S.gcls, S.N_Ground, S.N_rows, S.N_wide, S.N_high, S.N_Kind, S.N_solid, S.N_pull, S.N_program, S.N_Game, S.N_players, S.N_ground, S.N_kinds, S.N_births, S.N_World, S.N_tick, S.N_seed, S.N_shared, S.N_count, S.N_bodies, S.N_said, S.N_Screen, S.N_played, S.N_drawing, S.N_times, S.N_NoWorld, S.N_show, S.N_shown, S.N_picture, S.N_Program, S.w_is_integer, S.w_is_within, S.w_is_sized, S.w_is_sized_non, S.allF_map, S.anyF_map, S.w_is_small, S.w_is_seed, S.w_is_speed, S.w_are_small, *])
def signOK (c : Nat) : Prop := c = 35 ∨ c = 46 ∨ (48 ≤ c ∧ c ≤ 57)
structure RowsOK (rows : List (List Nat)) (w : Nat) : Prop where
  len : ∀ r ∈ rows, r.length = w
  ok : ∀ r ∈ rows, ∀ c ∈ r, signOK c
theorem RowsOK.nil {w : Nat} : RowsOK [] w := ⟨by simp, by simp⟩
theorem RowsOK.snoc {rs : List (List Nat)} {r : List Nat} {w : Nat} (h : RowsOK rs w) (h1 : r.length = w) (h2 : ∀ c ∈ r, signOK c) : RowsOK (rs ++ [r]) w := ⟨fun x hx => by
  rcases List.mem_append.mp hx with hx | hx
  · exact h.len x hx
  · rw [List.mem_singleton.mp hx]; exact h1, fun x hx => by
  rcases List.mem_append.mp hx with hx | hx
  · exact h.ok x hx
  · rw [List.mem_singleton.mp hx]; exact h2⟩
section
variable {n : Nat} {M : Mem} {Q : DK1} {X : XK1} {hq : Hid Q} {hx hx' : Hid X}
theorem ground_sign_spec {a : Addr} {h : Hand} {f : Int} (ha : M a = some (handMO h)) (hk : HandOK h)
    (k : ∀ c h', signOK c → HandOK h' → Q (.str [c]) (M.set a (handMO h'))) : callH (wpF gg fs (n + 2)) F_law_ground_sign [.loc a, .int f] M Q X hq hx := by
  rw [go_law_ground_sign]
  walk_at "wp"
  refine take_spec ha hk (by decide) (by decide) fun v h1 hk1 v0 v1 => ?_
  walk_at "wp"
  split
  · exact k _ _ (.inl rfl) hk1
  · split
    · refine take_spec Mem.set_same hk1 (by decide) (by decide) fun w h2 hk2 w0 w1 => ?_
      obtain ⟨x, hm, _, e⟩ := atI_some (xs := [48, 49, 50, 51, 52, 53, 54, 55, 56, 57]) w0 w1
      walk_at "wp"
      simp only [e]
      walk_at "wp"
      refine k _ _ (.inr (.inr ?_)) hk2
      simp only [List.mem_cons, List.not_mem_nil, or_false] at hm
      omega
    · exact k _ _ (.inr (.inl rfl)) hk1
theorem rows_spec {a : Addr} {h : Hand} {w hi : Int} (ha : M a = some (handMO h)) (hk : HandOK h) (hw : 1 ≤ w) (hw2 : w ≤ 30) (hh : 1 ≤ hi) (hh2 : hi ≤ 30)
    (k : ∀ rows h', RowsOK rows w.toNat → rows.length = hi.toNat → HandOK h' → Q (.tup (rows.map .str)) (M.set a (handMO h'))) : callH (wpF gg fs (n + 3)) F_law_rows [.loc a, .int w, .int hi] M Q X hq hx := by
  rw [go_law_rows]
  walk_at "wp"
  refine take_spec ha hk (by decide) (by decide) fun f h1 hk1 f0 f1 => ?_
  walk_at "wp"
  refine new_i fun l hl => ?_
  obtain ⟨n1, n2, hl⟩ := new_ne hl
  have r1 : -4611686018427387904 ≤ hi := by omega
  have r2 : hi < 4611686018427387904 := by omega
  have r3 : -4611686018427387904 ≤ w := by omega
  have r4 : w < 4611686018427387904 := by omega
  walk_at "wp*"
  refine forH_inv (fun rest e m => ∃ h rs ok oj, e = [some (.loc a), some (.int w), some (.int hi), some (.int f), some (.loc l), ok, oj] ∧ m = (M.set a (handMO h)).set l (.lst (rs.map .str)) ∧ HandOK h ∧ rs.length + rest.length = hi.toNat ∧ RowsOK rs w.toNat)
    ⟨h1, [], none, none, rfl, rfl, hk1, by simp [rngL_length], RowsOK.nil⟩ ?_ ?_
  · rintro d rest e m kk ⟨h2, rs, ok, oj, rfl, rfl, hk2, hlen, hr⟩ kn
    refine ⟨trivial, ?_⟩
    have hm : (M.set a (handMO h2)) l = none := by rw [Mem.set_ne n2]; exact hl
    clear k
    walk_at "wp*"
    refine lcH_runT (fun c : Nat => .str [c]) (fun m => ∃ h, HandOK h ∧ m = (M.set a (handMO h)).set l (.lst (rs.map .str))) signOK ⟨h2, hk2, rfl⟩ (fun _ _ => trivial) (by rw [rngL_length]; omega) ?_ ?_
    · rintro d hd m k2 ⟨h3, hk3, rfl⟩ kk2
      walk_at "wp"
      refine ground_sign_spec (by rw [Mem.set_ne n1]; exact Mem.set_same) hk3 fun c h4 hc hk4 => ?_
      walk_at "wp"
      refine kk2 _ _ ⟨h4, hk4, mem_swap n1⟩ hc
    · rintro cs m ⟨h3, hk3, rfl⟩ hlc hcs
      have hc2 : cs.length ≤ 16777216 := by rw [hlc, rngL_length]; omega
      have hr2 : rs.length < 16777216 := by simp only [List.length_cons] at hlen; omega
      have hcl : w.toNat = cs.length := by rw [hlc, rngL_length]; omega
      clear hm hlc
      walk_at "wp*"
      refine kn _ _ ⟨h3, rs ++ [cs], some d, oj, ?_⟩
      refine ⟨rfl, by simp, hk3, by simp only [List.length_append, List.length_cons, List.length_nil] at hlen ⊢; omega, hr.snoc hcl.symm hcs⟩
  · rintro e m ⟨h2, rs, ok, oj, rfl, rfl, hk2, hlen, hr⟩
    refine ⟨trivial, ?_⟩
    walk_at "wp*"
    exact k rs h2 hr (by simpa using hlen) hk2
theorem ground_spec {a : Addr} {h : Hand} (ha : M a = some (handMO h)) (hk : HandOK h)
    (k : ∀ rows W H h', RowsOK rows W → rows.length = H → 0 < W → W ≤ 12 → 0 < H → H ≤ 8 → HandOK h' → Q (.tup (rows.map .str)) (M.set a (handMO h'))) : callH (wpF gg fs (n + 4)) F_law_ground [.loc a] M Q X hq hx := by
  have go : ∀ (m : Mem) (h1 : Hand) (w hi : Int) (q : DK1) (x : XK1) (aq : Hid q) (ax : Hid x), m a = some (handMO h1) → HandOK h1 → 1 ≤ w → w ≤ 12 → 1 ≤ hi → hi ≤ 8 →
      (∀ rows W H h', RowsOK rows W → rows.length = H → 0 < W → W ≤ 12 → 0 < H → H ≤ 8 → HandOK h' → q (.tup (rows.map .str)) (m.set a (handMO h'))) → callH (wpF gg fs (n + 3)) F_law_rows [.loc a, .int w, .int hi] m q x aq ax := by
    intro m h1 w hi q x aq ax ha hk w1 w2 i1 i2 k
    exact rows_spec ha hk w1 (by omega) i1 (by omega) fun rows h2 hr hl hk2 => k rows w.toNat hi.toNat h2 hr hl (by omega) (by omega) (by omega) (by omega) hk2
  rw [go_law_ground]
  walk_at "wp"
  refine take_spec ha hk (by decide) (by decide) fun v h1 hk1 v0 v1 => ?_
  walk_at "wp"
  split
  · refine take_spec Mem.set_same hk1 (by decide) (by decide) fun w h2 hk2 w0 w1 => ?_
    walk_at "wp"
    refine take_spec Mem.set_same hk2 (by decide) (by decide) fun u h3 hk3 u0 u1 => ?_
    walk_at "wp"
    refine go _ _ _ _ _ _ _ _ Mem.set_same hk3 (by omega) (by omega) (by omega) (by omega) fun rows W H h' a1 a2 a3 a4 a5 a6 a7 => ?_
    walk_at "wp"
    exact k rows W H h' a1 a2 a3 a4 a5 a6 a7
  · split
    · refine go _ _ _ _ _ _ _ _ Mem.set_same hk1 (by omega) (by omega) (by omega) (by omega) fun rows W H h' a1 a2 a3 a4 a5 a6 a7 => ?_
      walk_at "wp"
      exact k rows W H h' a1 a2 a3 a4 a5 a6 a7
    · refine take_spec Mem.set_same hk1 (by decide) (by decide) fun w h2 hk2 w0 w1 => ?_
      walk_at "wp"
      refine take_spec Mem.set_same hk2 (by decide) (by decide) fun u h3 hk3 u0 u1 => ?_
      walk_at "wp"
      refine go _ _ _ _ _ _ _ _ Mem.set_same hk3 (by omega) (by omega) (by omega) (by omega) fun rows W H h' a1 a2 a3 a4 a5 a6 a7 => ?_
      walk_at "wp"
      exact k rows W H h' a1 a2 a3 a4 a5 a6 a7
/-! kinds -/
structure Kd where
  w : Int
  h : Int
  s : Bool
  p : Int
@[reducible] def kdD (k : Kd) : D := .tup [.int k.w, .int k.h, .bl k.s, .int k.p, .non]
structure KdOK (k : Kd) : Prop where
  w : 1 ≤ k.w ∧ k.w ≤ 32
  h : 1 ≤ k.h ∧ k.h ≤ 32
  p : -4 ≤ k.p ∧ k.p ≤ 4
theorem kind_spec {a : Addr} {h : Hand} (ha : M a = some (handMO h)) (hk : HandOK h)
    (k : ∀ kd h', KdOK kd → HandOK h' → Q (kdD kd) (M.set a (handMO h'))) : callH (wpF gg fs (n + 3)) F_law_kind [.loc a] M Q X hq hx := by
  rw [go_law_kind]
  refine cutF (fun e m => ∃ w hi h1, e = [some (.loc a), none, some (.int w), some (.int hi)] ∧ 1 ≤ w ∧ w ≤ 32 ∧ 1 ≤ hi ∧ hi ≤ 32 ∧ m = M.set a (handMO h1) ∧ HandOK h1) ?_ ?_
  · intro J kj
    walk_at "wp"
    refine take_spec ha hk (by decide) (by decide) fun v h1 hk1 v0 v1 => ?_
    walk_at "wp"
    split <;> {
      refine take_spec Mem.set_same hk1 (by decide) (by decide) fun w h2 hk2 w0 w1 => ?_
      walk_at "wp"
      refine take_spec Mem.set_same hk2 (by decide) (by decide) fun u h3 hk3 u0 u1 => ?_
      walk_at "wp"
      exact kj _ _ ⟨_, _, _, rfl, by omega, by omega, by omega, by omega, rfl, hk3⟩ }
  · rintro e m ⟨w, hi, h1, rfl, w1, w2, i1, i2, rfl, hk1⟩
    walk_at "wp"
    refine take_spec Mem.set_same hk1 (by decide) (by decide) fun v h2 hk2 v0 v1 => ?_
    walk_at "wp"
    refine pick_spec Mem.set_same hk2 (by simp) (by decide) fun x h3 hx hk3 => ?_
    walk_at "wp"
    simp only [List.mem_cons, List.not_mem_nil, or_false] at hx
    rcases hx with rfl | rfl | rfl | rfl | rfl | rfl | rfl | rfl | rfl | rfl <;> exact k ⟨_, _, _, _⟩ h3 ⟨⟨w1, w2⟩, ⟨i1, i2⟩, by simp⟩ hk3
theorem kinds_spec {a : Addr} {h : Hand} (ha : M a = some (handMO h)) (hk : HandOK h)
    (k : ∀ ks h', (∀ kd ∈ ks, KdOK kd) → ks ≠ [] → ks.length ≤ 8 → HandOK h' → Q (.lst (ks.map kdD)) (M.set a (handMO h'))) : callH (wpF gg fs (n + 4)) F_law_kinds [.loc a] M Q X hq hx := by
  rw [go_law_kinds]
  walk_at "wp"
  refine pick_spec ha hk (by simp) (by decide) fun x h1 hx hk1 => ?_
  obtain ⟨i, rfl, i1, i2⟩ : ∃ i, x = .int i ∧ 1 ≤ i ∧ i ≤ 8 := by
    simp only [List.mem_cons, List.not_mem_nil, or_false] at hx
    rcases hx with rfl | rfl | rfl | rfl | rfl | rfl <;> exact ⟨_, rfl, by decide, by decide⟩
  have r1 : -4611686018427387904 ≤ i := by omega
  have r2 : i < 4611686018427387904 := by omega
  walk_at "wp*"
  refine lcH_runT kdD (fun m => ∃ h, HandOK h ∧ m = M.set a (handMO h)) KdOK ⟨h1, hk1, rfl⟩ (fun _ _ => trivial) (by rw [rngL_length]; omega) ?_ ?_
  · rintro d hd m k2 ⟨h3, hk3, rfl⟩ kk2
    walk_at "wp"
    refine kind_spec Mem.set_same hk3 fun kd h4 hkd hk4 => ?_
    walk_at "wp"
    exact kk2 _ _ ⟨h4, hk4, rfl⟩ hkd
  · rintro ks m ⟨h3, hk3, rfl⟩ hl hks
    rw [rngL_length] at hl
    walk_at "wp"
    refine k ks h3 hks ?_ (by omega) hk3
    rintro rfl
    simp only [List.length_nil] at hl
    omega
theorem speed_spec {a : Addr} {h : Hand} (ha : M a = some (handMO h)) (hk : HandOK h)
    (k : ∀ i h', -16 ≤ i → i ≤ 16 → HandOK h' → Q (.int i) (M.set a (handMO h'))) : callH (wpF gg fs (n + 2)) F_law_speed [.loc a] M Q X hq hx := by
  rw [go_law_speed]
  walk_at "wp"
  refine take_spec ha hk (by decide) (by decide) fun v h1 hk1 v0 v1 => ?_
  walk_at "wp"
  split
  · exact k _ _ (by decide) (by decide) hk1
  · split
    · refine take_spec Mem.set_same hk1 (by decide) (by decide) fun w h2 hk2 w0 w1 => ?_
      walk_at "wp"
      exact k _ _ (by omega) (by omega) hk2
    · refine take_spec Mem.set_same hk1 (by decide) (by decide) fun w h2 hk2 w0 w1 => ?_
      walk_at "wp"
      exact k _ _ (by omega) (by omega) hk2
theorem tick_spec {a : Addr} {h : Hand} (ha : M a = some (handMO h)) (hk : HandOK h)
    (k : ∀ i h', 0 ≤ i → i ≤ 1000000000 → HandOK h' → Q (.int i) (M.set a (handMO h'))) : callH (wpF gg fs (n + 3)) F_law_tick [.loc a] M Q X hq hx := by
  rw [go_law_tick]
  walk_at "wp"
  refine take_spec ha hk (by decide) (by decide) fun v h1 hk1 v0 v1 => ?_
  walk_at "wp"
  split
  · refine pick_spec Mem.set_same hk1 (by simp) (by decide) fun x h2 hx hk2 => ?_
    walk_at "wp"
    simp only [List.mem_cons, List.not_mem_nil, or_false] at hx
    rcases hx with rfl | rfl | rfl | rfl <;> exact k _ _ (by decide) (by decide) hk2
  · refine take_spec Mem.set_same hk1 (by decide) (by decide) fun w h2 hk2 w0 w1 => ?_
    walk_at "wp"
    exact k _ _ (by omega) (by omega) hk2
/-- some small numbers, one by one -/
theorem smalls_run {a : Addr} {h : Hand} {items : List D} {own : List Nat} {i : Nat} {env : DEnv} {gd : Guard} {mm : Bool} {c1 : Hid own} {c2 : Hid (Tg.name i)} {c3 : Hid Ot.none} {c4 : Hid (E.call F_law_small (.cons (.var 0) .nil))} {c5 : Hid gd} {c6 : Hid Q}
    (ha : M a = some (handMO h)) (hk : HandOK h) (hl : items.length ≤ 16777216) (hg : ∀ m, gd m) (he : ∀ d, vr ((wipeE env own).set i (some d)) 0 = some (.loc a))
    (k : ∀ (is : List Int) h', is.length = items.length → is.all smallB = true → HandOK h' → fin mm (.lst (is.map .int)) (M.set a (handMO h')) Q) :
    lcH gg (wpF gg fs (n + 3)) mm own (.name i) .none (.call F_law_small (.cons (.var 0) .nil)) gd items env M Q c1 c2 c3 c4 c5 c6 := by
  refine lcH_runT D.int (fun m => ∃ h, HandOK h ∧ m = M.set a (handMO h)) (fun i => smallB i = true) ⟨h, hk, (Mem.set_self ha).symm⟩ (fun m _ => hg m) hl ?_ ?_
  · rintro d hd m k2 ⟨h3, hk3, rfl⟩ kk2
    have := he d
    walk_at "wp*"
    refine small_spec Mem.set_same hk3 fun i h4 hi hk4 => ?_
    walk_at "wp"
    exact kk2 _ _ ⟨h4, hk4, rfl⟩ hi
  · rintro is m ⟨h3, hk3, rfl⟩ hn hs
    exact k is h3 hn (List.all_eq_true.mpr hs) hk3
theorem said_spec {a : Addr} {h : Hand} (ha : M a = some (handMO h)) (hk : HandOK h)
    (k : ∀ (is : List Int) h', is.length ≤ 64 → is.all smallB = true → HandOK h' → Q (.tup (is.map .int)) (M.set a (handMO h'))) : callH (wpF gg fs (n + 4)) F_law_said [.loc a] M Q X hq hx := by
  rw [go_law_said]
  walk_at "wp"
  refine pick_spec ha hk (by simp) (by decide) fun x h1 hx hk1 => ?_
  obtain ⟨i, rfl, i1, i2⟩ : ∃ i, x = .int i ∧ 0 ≤ i ∧ i ≤ 64 := by
    simp only [List.mem_cons, List.not_mem_nil, or_false] at hx
    rcases hx with rfl | rfl | rfl | rfl | rfl | rfl <;> exact ⟨_, rfl, by decide, by decide⟩
  have r1 : -4611686018427387904 ≤ i := by omega
  have r2 : i < 4611686018427387904 := by omega
  walk_at "wp*"
  refine smalls_run Mem.set_same hk1 (by rw [rngL_length]; omega) (fun _ => trivial) (fun d => rfl) fun is h2 hl hs hk2 => ?_
  rw [rngL_length] at hl
  walk_at "wp"
  exact k is h2 (by omega) hs hk2
end
end S

set_option Elab.async false
set_option linter.all false
set_option maxRecDepth 100000
set_option maxHeartbeats 4000000
/-! PD: where bodies may be, by the law and by the program. -/
namespace S
open Lw Wp
open PySem (Addr)
local macro_rules | `(tactic| walk_at "wp") => `(tactic| try simp -dsimp -implicitDefEqProofs only [↓Wp.u_var, ↓Wp.u_cst, ↓Wp.u_glb, ↓Wp.u_fld, ↓Wp.u_bin, ↓Wp.u_neg, ↓Wp.u_cmp, ↓Wp.u_chn, ↓Wp.u_isN, ↓Wp.u_notN, ↓Wp.u_isB, ↓Wp.u_and, ↓Wp.u_or, ↓Wp.u_not, ↓Wp.u_ite, ↓Wp.u_tup, ↓Wp.u_lst, ↓Wp.u_dct0, ↓Wp.u_dct1, ↓Wp.u_call, ↓Wp.u_make, ↓Wp.u_meth, ↓Wp.u_bi, ↓Wp.u_bm, ↓Wp.u_idx, ↓Wp.u_sl, ↓Wp.u_rev, ↓Wp.u_lc, ↓Wp.u_frz, ↓Wp.u_nil, ↓Wp.u_cons, ↓Wp.u_tval, ↓Wp.u_tand, ↓Wp.u_tor, ↓Wp.u_tnot, ↓Wp.u_tn, ↓Wp.u_ts, ↓Wp.u_on, ↓Wp.u_os, ↓Wp.u_of, ↓Wp.u_rng1, ↓Wp.u_rng2, ↓Wp.u_rng3, ↓Wp.u_enum, ↓Wp.u_zip, ↓Wp.u_tname, ↓Wp.u_tfld, ↓Wp.u_tidx, ↓Wp.u_ttup, ↓Wp.u_tnil, ↓Wp.u_tcons, ↓Wp.u_set, ↓Wp.u_par, ↓Wp.u_aug, ↓Wp.u_ife, ↓Wp.u_for, ↓Wp.u_whil, ↓Wp.u_ret, ↓Wp.u_retN, ↓Wp.u_raise, ↓Wp.u_exp, ↓Wp.u_pass, ↓Wp.u_brk, ↓Wp.u_cnt, ↓Wp.u_never, ↓Wp.u_try, ↓Wp.u_snil, ↓Wp.u_scons, ↓Wp.u_augf, ↓Wp.u_turnL, ↓Wp.u_turnF, ↓Wp.opt_un, ↓reduceIte, Wp.optH_some, Wp.optH_none, Wp.u_finF, Wp.u_finL, Wp.u_finD, Wp.vr, Wp.bO, Wp.iO, Wp.nonD, Wp.blD, Lw.wipeE, Wp.parE, Wp.deref_non, Wp.deref_bl, Wp.deref_int, Wp.deref_str, Wp.deref_tup, Wp.deref_lst, Wp.deref_ins, Wp.deref_dct, Wp.deref_scr, Wp.deref_loc, Lw.truthF, Lw.lenF, Lw.keyF, Lw.getK, Lw.putK, Lw.idxF, Wp.idx_str, Lw.slF, Lw.revF, Lw.addF, Lw.subF, Wp.mulF_ok, Wp.mulF_r, Wp.mulF_l, Wp.mulF_lst, Wp.mulF_tup, Wp.mulF_str, Lw.fdivF, Lw.modF, Lw.powF, Lw.binF, Lw.augF, Lw.eqF, Lw.flatD, Lw.eqFl, Lw.inF, Lw.intsF, Lw.cmpF, Lw.isiF, Lw.lookF, Lw.fldF, Lw.clsF, Lw.mthF, Lw.strsF, Lw.blsF, Lw.one, Lw.two, Lw.tupleF, Lw.listF, Lw.intF, L2.ixN, Lw.min2F, Lw.max2F, Lw.maxlF, Lw.minlF, Lw.sumF, Lw.strF, Lw.absF, Lw.lrngF, Lw.isisF, Lw.biF, Lw.splitF, Lw.upperF, Lw.getF, Lw.bmF, Lw.extF, Lw.popF, Lw.bmM, Lw.argF, Lw.lstAt, Lw.itemsF, Lw.gdOf, Lw.frzF, Lw.setF, Lw.putFld, Lw.putIdx, Lw.bmT, Lw.bmW, Lw.tgsFit, Wp.dropE_nil, Wp.dropE_cons, Lw.delL, Wp.atI_zero, Wp.atI_pos, Wp.atI_last, Lw.Mem.set_same, Lw.Mem.set_set, Lw.Mem.set_ne, Lw.Mem.del_set, Wp.rngL_length, Wp.join_signs, Wp.mem_swap, Wp.sizeLine_val, Wp.one_inj, List.cons_append, List.nil_append, Int.reduceAbs, Nat.reducePow, Nat.reduceMod, Nat.reduceDiv, Nat.reduceAdd, Nat.reduceMul, Nat.reduceSub, Nat.reduceLT, Nat.reduceLeDiff, Nat.reduceEqDiff, Int.reduceAdd, Int.reduceSub, Int.reduceMul, Int.reduceLT, Int.reduceLE, Int.reduceGT, Int.reduceGE, Int.reduceEq, Int.reduceNe, Int.reducePow, Int.reduceToNat, Int.reduceDiv, Int.reduceMod, reduceCtorEq, Int.cast_ofNat_Int, if_true, if_false, Bool.false_eq_true, Option.some.injEq, Option.map_some, Option.bind_some, Option.map_none, Option.bind_none, Option.join_some, Option.isSome_some, Option.isSome_none, List.length_range, List.map_cons, List.map_nil, List.length_cons, List.length_nil, List.length_map, List.set_cons_zero, List.set_cons_succ, List.mem_cons, List.not_mem_nil, List.all_cons, List.all_nil, List.any_cons, List.any_nil, Bool.and_eq_true, Bool.and_true, Bool.true_and, Bool.and_false, Bool.false_and, Bool.or_false, Bool.false_or, Bool.or_true, Bool.true_or, Bool.not_true, Bool.not_false, Bool.not_eq_true, Bool.not_eq_false', Bool.not_eq_true', decide_eq_true_eq, decide_eq_false_iff_not, decide_true, decide_false, and_true, true_and, and_false, false_and, or_true, true_or, or_false, false_or, not_true_eq_false, not_false_eq_true, eq_self, ite_self, ne_eq, Int.reduceNeg, List.cons_ne_nil, S.gc_MOST_SMALL, S.gc_LEAST_SMALL, S.gc_MOST_SIGNS, S.gc_FREE, S.gc_WALL, S.gc_MARKS, S.gc_CELL, S.gc_PRIME, S.gc_MOST_SPEED, S.gc_MANY_CELLS, S.gc_MOST_BODIES_worlds, S.gc_MOST_TICK, S.gc_MANY_SHARED, S.gc_MOST_SAID, S.gc_LINE_END, S.gc_LETTERS, S.gc_BLANK, S.gc_MOST_ROWS, S.gc_MOST_SIDE, S.gc_MOST_PULL, S.gc_MOST_PLAYERS, S.gc_MOST_KINDS, S.gc_MOST_BIRTHS, S.gm_Screen_show, S.gm_Screen_shown, S.gm_Screen_picture, S.gi_Ground, S.gi_Kind, S.gi_Game, S.gi_World, S.gi_Screen, S.gf_Ground, S.gf_Kind, S.gf_Game, S.gf_World, S.gf_Screen, S.gs_NoWorld_NoWorld, S.gcls, S.N_Ground, S.N_rows, S.N_wide, S.N_high, S.N_Kind, S.N_solid, S.N_pull, S.N_program, S.N_Game, S.N_players, S.N_ground, S.N_kinds, S.N_births, S.N_World, S.N_tick, S.N_seed, S.N_shared, S.N_count, S.N_bodies, S.N_said, S.N_Screen, S.N_played, S.N_drawing, S.N_times, S.N_NoWorld, S.N_show, S.N_shown, S.N_picture, S.N_Program, S.w_is_integer, S.w_is_within, S.w_is_sized, S.w_is_sized_non, S.allF_map, S.anyF_map, S.w_is_small, S.w_is_seed, S.w_is_speed, S.w_are_small])
local macro_rules | `(tactic| walk_at "wp*") => `(tactic| try simp -dsimp -implicitDefEqProofs only [↓Wp.u_var, ↓Wp.u_cst, ↓Wp.u_glb, ↓Wp.u_fld, ↓Wp.u_bin, ↓Wp.u_neg, ↓Wp.u_cmp, ↓Wp.u_chn, ↓Wp.u_isN, ↓Wp.u_notN, ↓Wp.u_isB, ↓Wp.u_and, ↓Wp.u_or, ↓Wp.u_not, ↓Wp.u_ite, ↓Wp.u_tup, ↓Wp.u_lst, ↓Wp.u_dct0, ↓Wp.u_dct1, ↓Wp.u_call, ↓Wp.u_make, ↓Wp.u_meth, ↓Wp.u_bi, ↓Wp.u_bm, ↓Wp.u_idx, ↓Wp.u_sl, ↓Wp.u_rev, ↓Wp.u_lc, ↓Wp.u_frz, ↓Wp.u_nil, ↓Wp.u_cons, ↓Wp.u_tval, ↓Wp.u_tand, ↓Wp.u_tor, ↓Wp.u_tnot, ↓Wp.u_tn, ↓Wp.u_ts, ↓Wp.u_on, ↓Wp.u_os, ↓Wp.u_of, ↓Wp.u_rng1, ↓Wp.u_rng2, ↓Wp.u_rng3, ↓Wp.u_enum, ↓Wp.u_zip, ↓Wp.u_tname, ↓Wp.u_tfld, ↓Wp.u_tidx, ↓Wp.u_ttup, ↓Wp.u_tnil, ↓Wp.u_tcons, ↓Wp.u_set, ↓Wp.u_par, ↓Wp.u_aug, ↓Wp.u_ife, ↓Wp.u_for, ↓Wp.u_whil, ↓Wp.u_ret, ↓Wp.u_retN, ↓Wp.u_raise, ↓Wp.u_exp, ↓Wp.u_pass, ↓Wp.u_brk, ↓Wp.u_cnt, ↓Wp.u_never, ↓Wp.u_try, ↓Wp.u_snil, ↓Wp.u_scons, ↓Wp.u_augf, ↓Wp.u_turnL, ↓Wp.u_turnF, ↓Wp.opt_un, ↓reduceIte, Wp.optH_some, Wp.optH_none, Wp.u_finF, Wp.u_finL, Wp.u_finD, Wp.vr, Wp.bO, Wp.iO, Wp.nonD, Wp.blD, Lw.wipeE, Wp.parE, Wp.deref_non, Wp.deref_bl, Wp.deref_int, Wp.deref_str, Wp.deref_tup, Wp.deref_lst, Wp.deref_ins, Wp.deref_dct, Wp.deref_scr, Wp.deref_loc, Lw.truthF, Lw.lenF, Lw.keyF, Lw.getK, Lw.putK, Lw.idxF, Wp.idx_str, Lw.slF, Lw.revF, Lw.addF, Lw.subF, Wp.mulF_ok, Wp.mulF_r, Wp.mulF_l, Wp.mulF_lst, Wp.mulF_tup, Wp.mulF_str, Lw.fdivF, Lw.modF, Lw.powF, Lw.binF, Lw.augF, Lw.eqF, Lw.flatD, Lw.eqFl, Lw.inF, Lw.intsF, Lw.cmpF, Lw.isiF, Lw.lookF, Lw.fldF, Lw.clsF, Lw.mthF, Lw.strsF, Lw.blsF, Lw.one, Lw.two, Lw.tupleF, Lw.listF, Lw.intF, L2.ixN, Lw.min2F, Lw.max2F, Lw.maxlF, Lw.minlF, Lw.sumF, Lw.strF, Lw.absF, Lw.lrngF, Lw.isisF, Lw.biF, Lw.splitF, Lw.upperF, Lw.getF, Lw.bmF, Lw.extF, Lw.popF, Lw.bmM, Lw.argF, Lw.lstAt, Lw.itemsF, Lw.gdOf, Lw.frzF, Lw.setF, Lw.putFld, Lw.putIdx, Lw.bmT, Lw.bmW, Lw.tgsFit, Wp.dropE_nil, Wp.dropE_cons, Lw.delL, Wp.atI_zero, Wp.atI_pos, Wp.atI_last, Lw.Mem.set_same, Lw.Mem.set_set, Lw.Mem.set_ne, Lw.Mem.del_set, Wp.rngL_length, Wp.join_signs, Wp.mem_swap, Wp.sizeLine_val, Wp.one_inj, List.cons_append, List.nil_append, Int.reduceAbs, Nat.reducePow, Nat.reduceMod, Nat.reduceDiv, Nat.reduceAdd, Nat.reduceMul, Nat.reduceSub, Nat.reduceLT, Nat.reduceLeDiff, Nat.reduceEqDiff, Int.reduceAdd, Int.reduceSub, Int.reduceMul, Int.reduceLT, Int.reduceLE, Int.reduceGT, Int.reduceGE, Int.reduceEq, Int.reduceNe, Int.reducePow, Int.reduceToNat, Int.reduceDiv, Int.reduceMod, reduceCtorEq, Int.cast_ofNat_Int, if_true, if_false, Bool.false_eq_true, Option.some.injEq, Option.map_some, Option.bind_some, Option.map_none, Option.bind_none, Option.join_some, Option.isSome_some, Option.isSome_none, List.length_range, List.map_cons, List.map_nil, List.length_cons, List.length_nil, List.length_map, List.set_cons_zero, List.set_cons_succ, List.mem_cons, List.not_mem_nil, List.all_cons, List.all_nil, List.any_cons, List.any_nil, Bool.and_eq_true, Bool.and_true, Bool.true_and, Bool.and_false, Bool.false_and, Bool.or_false, Bool.false_or, Bool.or_true, Bool.true_or, Bool.not_true, Bool.not_false, Bool.not_eq_true, Bool.not_eq_false', Bool.not_eq_true', decide_eq_true_eq, decide_eq_false_iff_not, decide_true, decide_false, and_true, true_and, and_false, false_and, or_true, true_or, or_false, false_or, not_true_eq_false, not_false_eq_true, eq_self, ite_self, ne_eq, Int.reduceNeg, List.cons_ne_nil, S.gc_MOST_SMALL, S.gc_LEAST_SMALL, S.gc_MOST_SIGNS, S.gc_FREE, S.gc_WALL, S.gc_MARKS, S.gc_CELL, S.gc_PRIME, S.gc_MOST_SPEED, S.gc_MANY_CELLS, S.gc_MOST_BODIES_worlds, S.gc_MOST_TICK, S.gc_MANY_SHARED, S.gc_MOST_SAID, S.gc_LINE_END, S.gc_LETTERS, S.gc_BLANK, S.gc_MOST_ROWS, S.gc_MOST_SIDE, S.gc_MOST_PULL, S.gc_MOST_PLAYERS, S.gc_MOST_KINDS, S.gc_MOST_BIRTHS, S.gm_Screen_show, S.gm_Screen_shown, S.gm_Screen_picture, S.gi_Ground, S.gi_Kind, S.gi_Game, S.gi_World, S.gi_Screen, S.gf_Ground, S.gf_Kind, S.gf_Game, S.gf_World, S.gf_Screen, S.gs_NoWorld_NoWorld, S.gcls, S.N_Ground, S.N_rows, S.N_wide, S.N_high, S.N_Kind, S.N_solid, S.N_pull, S.N_program, S.N_Game, S.N_players, S.N_ground, S.N_kinds, S.N_births, S.N_World, S.N_tick, S.N_seed, S.N_shared, S.N_count, S.N_bodies, S.N_said, S.N_Screen, S.N_played, S.N_drawing, S.N_times, S.N_NoWorld, S.N_show, S.N_shown, S.N_picture, S.N_Program, S.w_is_integer, S.w_is_within, S.w_is_sized, S.w_is_sized_non, S.allF_map, S.anyF_map, S.w_is_small, S.w_is_seed, S.w_is_speed, S.w_are_small, *])
/-- rows of one width -/
structure Gr where
  rows : List (List Nat)
  W : Nat
  ok : RowsOK rows W
  w : 0 < W ∧ W ≤ 12
  h : 0 < rows.length ∧ rows.length ≤ 8
@[reducible] def Gr.d (r : Gr) : D := .tup (r.rows.map .str)
def Gr.at (r : Gr) (y x : Nat) : Nat := (r.rows.getD y []).getD x 35
theorem Gr.row (r : Gr) {y : Int} (h : 0 ≤ y) (h2 : y < r.rows.length) : ∃ s : List Nat, s ∈ r.rows ∧ r.rows.getD y.toNat [] = s ∧ s.length = r.W ∧ L2.atI (r.rows.map D.str) y = some (.str s) := by
  obtain ⟨s, hs, e1, e2⟩ := atI_map (f := D.str) h h2
  exact ⟨s, hs, by rw [List.getD_eq_getElem?_getD, e1]; rfl, r.ok.len s hs, e2⟩
theorem Gr.col {s : List Nat} {x : Int} (h : 0 ≤ x) (h2 : x < s.length) : L2.atI s x = some (s.getD x.toNat 35) := by
  obtain ⟨c, hc, e1, e2⟩ := atI_some h h2
  rw [e2, List.getD_eq_getElem?_getD, e1]
  rfl
def signF (r : Gr) (x y : Int) : Nat := if x < 0 ∨ y < 0 ∨ 8 * (r.W : Int) ≤ x ∨ 8 * (r.rows.length : Int) ≤ y then 35 else r.at (y / 8).toNat (x / 8).toNat
section
variable {n : Nat} {M : Mem} {Q : DK1} {X : XK1} {hq : Hid Q} {hx hx' : Hid X}
theorem w_law_sign {r : Gr} {x y : Int} : callH (wpF gg fs (n + 1)) F_law_sign [r.d, .int x, .int y] M Q X hq hx = Q (.str [signF r x y]) M := by
  obtain ⟨s0, h0, _, l0, e0⟩ := r.row (y := 0) (by omega) (by have := r.h; omega)
  have b0 : s0.length ≤ 16777216 := by have := r.w; omega
  have b1 : r.W ≤ 16777216 := by have := r.w; omega
  rw [go_law_sign]
  by_cases h1 : x < 0
  · walk_at "wp*"
    simp [signF, h1]
  · by_cases h2 : y < 0
    · walk_at "wp*"
      simp [signF, h2]
    · by_cases h3 : 8 * (r.W : Int) ≤ x
      · walk_at "wp*"
        simp [signF, h3]
      · by_cases h4 : 8 * (r.rows.length : Int) ≤ y
        · walk_at "wp*"
          simp [signF, h4]
        · obtain ⟨s, hs, ea, ls, e⟩ := r.row (y := y / 8) (by omega) (by omega)
          have ec := Gr.col (s := s) (x := x / 8) (by omega) (by omega)
          have b2 : s.length ≤ 16777216 := by omega
          clear hs
          have e5 : signF r x y = s.getD (x / 8).toNat 35 := by
            simp only [signF, h1, h2, h3, h4, or_self, if_false, Gr.at, ea]
          rw [e5]
          walk_at "wp*"
def spotsF (b l : Int) : List Int := (List.range ((l + 7) / 8 - 0).toNat).map (fun k : Nat => b + 8 * (0 + (k : Int))) ++ [b + l - 1]
theorem w_law_spots {b l : Int} (h1 : 1 ≤ l) (h2 : l ≤ 32) : callH (wpF gg fs (n + 1)) F_law_spots [.int b, .int l] M Q X hq hx = Q (.lst ((spotsF b l).map .int)) M := by
  have r1 : -4611686018427387904 ≤ (l + 7) / 8 := by omega
  have r2 : (l + 7) / 8 < 4611686018427387904 := by omega
  rw [go_law_spots]
  walk_at "wp*"
  rw [rngL_def, lcH_mapT (fun i : Nat => .int (b + 8 * (0 + (i : Int)))) trivial (by simp; omega) fun x _ k => by
    walk_at "wp"]
  have : ((l + 7) / 8 - 0).toNat + 1 ≤ 16777216 := by omega
  walk_at "wp*"
  simp [spotsF, Function.comp_def]
def openF (r : Gr) (x y w h : Int) : Bool := (spotsF y h).all fun d => (spotsF x w).all fun a => signF r a d != 35
local macro_rules | `(tactic| walk_at "wp") => `(tactic| try simp -dsimp -implicitDefEqProofs only [↓Wp.u_var, ↓Wp.u_cst, ↓Wp.u_glb, ↓Wp.u_fld, ↓Wp.u_bin, ↓Wp.u_neg, ↓Wp.u_cmp, ↓Wp.u_chn, ↓Wp.u_isN, ↓Wp.u_notN, ↓Wp.u_isB, ↓Wp.u_and, ↓Wp.u_or, ↓Wp.u_not, ↓Wp.u_ite, ↓Wp.u_tup, ↓Wp.u_lst, ↓Wp.u_dct0, ↓Wp.u_dct1, ↓Wp.u_call, ↓Wp.u_make, ↓Wp.u_meth, ↓Wp.u_bi, ↓Wp.u_bm, ↓Wp.u_idx, ↓Wp.u_sl, ↓Wp.u_rev, ↓Wp.u_lc, ↓Wp.u_frz, ↓Wp.u_nil, ↓Wp.u_cons, ↓Wp.u_tval, ↓Wp.u_tand, ↓Wp.u_tor, ↓Wp.u_tnot, ↓Wp.u_tn, ↓Wp.u_ts, ↓Wp.u_on, ↓Wp.u_os, ↓Wp.u_of, ↓Wp.u_rng1, ↓Wp.u_rng2, ↓Wp.u_rng3, ↓Wp.u_enum, ↓Wp.u_zip, ↓Wp.u_tname, ↓Wp.u_tfld, ↓Wp.u_tidx, ↓Wp.u_ttup, ↓Wp.u_tnil, ↓Wp.u_tcons, ↓Wp.u_set, ↓Wp.u_par, ↓Wp.u_aug, ↓Wp.u_ife, ↓Wp.u_for, ↓Wp.u_whil, ↓Wp.u_ret, ↓Wp.u_retN, ↓Wp.u_raise, ↓Wp.u_exp, ↓Wp.u_pass, ↓Wp.u_brk, ↓Wp.u_cnt, ↓Wp.u_never, ↓Wp.u_try, ↓Wp.u_snil, ↓Wp.u_scons, ↓Wp.u_augf, ↓Wp.u_turnL, ↓Wp.u_turnF, ↓Wp.opt_un, ↓reduceIte, Wp.optH_some, Wp.optH_none, Wp.u_finF, Wp.u_finL, Wp.u_finD, Wp.vr, Wp.bO, Wp.iO, Wp.nonD, Wp.blD, Lw.wipeE, Wp.parE, Wp.deref_non, Wp.deref_bl, Wp.deref_int, Wp.deref_str, Wp.deref_tup, Wp.deref_lst, Wp.deref_ins, Wp.deref_dct, Wp.deref_scr, Wp.deref_loc, Lw.truthF, Lw.lenF, Lw.keyF, Lw.getK, Lw.putK, Lw.idxF, Wp.idx_str, Lw.slF, Lw.revF, Lw.addF, Lw.subF, Wp.mulF_ok, Wp.mulF_r, Wp.mulF_l, Wp.mulF_lst, Wp.mulF_tup, Wp.mulF_str, Lw.fdivF, Lw.modF, Lw.powF, Lw.binF, Lw.augF, Lw.eqF, Lw.flatD, Lw.eqFl, Lw.inF, Lw.intsF, Lw.cmpF, Lw.isiF, Lw.lookF, Lw.fldF, Lw.clsF, Lw.mthF, Lw.strsF, Lw.blsF, Lw.one, Lw.two, Lw.tupleF, Lw.listF, Lw.intF, L2.ixN, Lw.min2F, Lw.max2F, Lw.maxlF, Lw.minlF, Lw.sumF, Lw.strF, Lw.absF, Lw.lrngF, Lw.isisF, Lw.biF, Lw.splitF, Lw.upperF, Lw.getF, Lw.bmF, Lw.extF, Lw.popF, Lw.bmM, Lw.argF, Lw.lstAt, Lw.itemsF, Lw.gdOf, Lw.frzF, Lw.setF, Lw.putFld, Lw.putIdx, Lw.bmT, Lw.bmW, Lw.tgsFit, Wp.dropE_nil, Wp.dropE_cons, Lw.delL, Wp.atI_zero, Wp.atI_pos, Wp.atI_last, Lw.Mem.set_same, Lw.Mem.set_set, Lw.Mem.set_ne, Lw.Mem.del_set, Wp.rngL_length, Wp.join_signs, Wp.mem_swap, Wp.sizeLine_val, Wp.one_inj, List.cons_append, List.nil_append, Int.reduceAbs, Nat.reducePow, Nat.reduceMod, Nat.reduceDiv, Nat.reduceAdd, Nat.reduceMul, Nat.reduceSub, Nat.reduceLT, Nat.reduceLeDiff, Nat.reduceEqDiff, Int.reduceAdd, Int.reduceSub, Int.reduceMul, Int.reduceLT, Int.reduceLE, Int.reduceGT, Int.reduceGE, Int.reduceEq, Int.reduceNe, Int.reducePow, Int.reduceToNat, Int.reduceDiv, Int.reduceMod, reduceCtorEq, Int.cast_ofNat_Int, if_true, if_false, Bool.false_eq_true, Option.some.injEq, Option.map_some, Option.bind_some, Option.map_none, Option.bind_none, Option.join_some, Option.isSome_some, Option.isSome_none, List.length_range, List.map_cons, List.map_nil, List.length_cons, List.length_nil, List.length_map, List.set_cons_zero, List.set_cons_succ, List.mem_cons, List.not_mem_nil, List.all_cons, List.all_nil, List.any_cons, List.any_nil, Bool.and_eq_true, Bool.and_true, Bool.true_and, Bool.and_false, Bool.false_and, Bool.or_false, Bool.false_or, Bool.or_true, Bool.true_or, Bool.not_true, Bool.not_false, Bool.not_eq_true, Bool.not_eq_false', Bool.not_eq_true', decide_eq_true_eq, decide_eq_false_iff_not, decide_true, decide_false, and_true, true_and, and_false, false_and, or_true, true_or, or_false, false_or, not_true_eq_false, not_false_eq_true, eq_self, ite_self, ne_eq, Int.reduceNeg, List.cons_ne_nil, S.gc_MOST_SMALL, S.gc_LEAST_SMALL, S.gc_MOST_SIGNS, S.gc_FREE, S.gc_WALL, S.gc_MARKS, S.gc_CELL, S.gc_PRIME, S.gc_MOST_SPEED, S.gc_MANY_CELLS, S.gc_MOST_BODIES_worlds, S.gc_MOST_TICK, S.gc_MANY_SHARED, S.gc_MOST_SAID, S.gc_LINE_END, S.gc_LETTERS, S.gc_BLANK, S.gc_MOST_ROWS, S.gc_MOST_SIDE, S.gc_MOST_PULL, S.gc_MOST_PLAYERS, S.gc_MOST_KINDS, S.gc_MOST_BIRTHS, S.gm_Screen_show, S.gm_Screen_shown, S.gm_Screen_picture, S.gi_Ground, S.gi_Kind, S.gi_Game, S.gi_World, S.gi_Screen, S.gf_Ground, S.gf_Kind, S.gf_Game, S.gf_World, S.gf_Screen, S.gs_NoWorld_NoWorld, S.gcls, S.N_Ground, S.N_rows, S.N_wide, S.N_high, S.N_Kind, S.N_solid, S.N_pull, S.N_program, S.N_Game, S.N_players, S.N_ground, S.N_kinds, S.N_births, S.N_World, S.N_tick, S.N_seed, S.N_shared, S.N_count, S.N_bodies, S.N_said, S.N_Screen, S.N_played, S.N_drawing, S.N_times, S.N_NoWorld, S.N_show, S.N_shown, S.N_picture, S.N_Program, S.w_is_integer, S.w_is_within, S.w_is_sized, S.w_is_sized_non, S.allF_map, S.anyF_map, S.w_is_small, S.w_is_seed, S.w_is_speed, S.w_are_small, S.w_law_sign, S.w_law_spots])
local macro_rules | `(tactic| walk_at "wp*") => `(tactic| try simp -dsimp -implicitDefEqProofs only [↓Wp.u_var, ↓Wp.u_cst, ↓Wp.u_glb, ↓Wp.u_fld, ↓Wp.u_bin, ↓Wp.u_neg, ↓Wp.u_cmp, ↓Wp.u_chn, ↓Wp.u_isN, ↓Wp.u_notN, ↓Wp.u_isB, ↓Wp.u_and, ↓Wp.u_or, ↓Wp.u_not, ↓Wp.u_ite, ↓Wp.u_tup, ↓Wp.u_lst, ↓Wp.u_dct0, ↓Wp.u_dct1, ↓Wp.u_call, ↓Wp.u_make, ↓Wp.u_meth, ↓Wp.u_bi, ↓Wp.u_bm, ↓Wp.u_idx, ↓Wp.u_sl, ↓Wp.u_rev, ↓Wp.u_lc, ↓Wp.u_frz, ↓Wp.u_nil, ↓Wp.u_cons, ↓Wp.u_tval, ↓Wp.u_tand, ↓Wp.u_tor, ↓Wp.u_tnot, ↓Wp.u_tn, ↓Wp.u_ts, ↓Wp.u_on, ↓Wp.u_os, ↓Wp.u_of, ↓Wp.u_rng1, ↓Wp.u_rng2, ↓Wp.u_rng3, ↓Wp.u_enum, ↓Wp.u_zip, ↓Wp.u_tname, ↓Wp.u_tfld, ↓Wp.u_tidx, ↓Wp.u_ttup, ↓Wp.u_tnil, ↓Wp.u_tcons, ↓Wp.u_set, ↓Wp.u_par, ↓Wp.u_aug, ↓Wp.u_ife, ↓Wp.u_for, ↓Wp.u_whil, ↓Wp.u_ret, ↓Wp.u_retN, ↓Wp.u_raise, ↓Wp.u_exp, ↓Wp.u_pass, ↓Wp.u_brk, ↓Wp.u_cnt, ↓Wp.u_never, ↓Wp.u_try, ↓Wp.u_snil, ↓Wp.u_scons, ↓Wp.u_augf, ↓Wp.u_turnL, ↓Wp.u_turnF, ↓Wp.opt_un, ↓reduceIte, Wp.optH_some, Wp.optH_none, Wp.u_finF, Wp.u_finL, Wp.u_finD, Wp.vr, Wp.bO, Wp.iO, Wp.nonD, Wp.blD, Lw.wipeE, Wp.parE, Wp.deref_non, Wp.deref_bl, Wp.deref_int, Wp.deref_str, Wp.deref_tup, Wp.deref_lst, Wp.deref_ins, Wp.deref_dct, Wp.deref_scr, Wp.deref_loc, Lw.truthF, Lw.lenF, Lw.keyF, Lw.getK, Lw.putK, Lw.idxF, Wp.idx_str, Lw.slF, Lw.revF, Lw.addF, Lw.subF, Wp.mulF_ok, Wp.mulF_r, Wp.mulF_l, Wp.mulF_lst, Wp.mulF_tup, Wp.mulF_str, Lw.fdivF, Lw.modF, Lw.powF, Lw.binF, Lw.augF, Lw.eqF, Lw.flatD, Lw.eqFl, Lw.inF, Lw.intsF, Lw.cmpF, Lw.isiF, Lw.lookF, Lw.fldF, Lw.clsF, Lw.mthF, Lw.strsF, Lw.blsF, Lw.one, Lw.two, Lw.tupleF, Lw.listF, Lw.intF, L2.ixN, Lw.min2F, Lw.max2F, Lw.maxlF, Lw.minlF, Lw.sumF, Lw.strF, Lw.absF, Lw.lrngF, Lw.isisF, Lw.biF, Lw.splitF, Lw.upperF, Lw.getF, Lw.bmF, Lw.extF, Lw.popF, Lw.bmM, Lw.argF, Lw.lstAt, Lw.itemsF, Lw.gdOf, Lw.frzF, Lw.setF, Lw.putFld, Lw.putIdx, Lw.bmT, Lw.bmW, Lw.tgsFit, Wp.dropE_nil, Wp.dropE_cons, Lw.delL, Wp.atI_zero, Wp.atI_pos, Wp.atI_last, Lw.Mem.set_same, Lw.Mem.set_set, Lw.Mem.set_ne, Lw.Mem.del_set, Wp.rngL_length, Wp.join_signs, Wp.mem_swap, Wp.sizeLine_val, Wp.one_inj, List.cons_append, List.nil_append, Int.reduceAbs, Nat.reducePow, Nat.reduceMod, Nat.reduceDiv, Nat.reduceAdd, Nat.reduceMul, Nat.reduceSub, Nat.reduceLT, Nat.reduceLeDiff, Nat.reduceEqDiff, Int.reduceAdd, Int.reduceSub, Int.reduceMul, Int.reduceLT, Int.reduceLE, Int.reduceGT, Int.reduceGE, Int.reduceEq, Int.reduceNe, Int.reducePow, Int.reduceToNat, Int.reduceDiv, Int.reduceMod, reduceCtorEq, Int.cast_ofNat_Int, if_true, if_false, Bool.false_eq_true, Option.some.injEq, Option.map_some, Option.bind_some, Option.map_none, Option.bind_none, Option.join_some, Option.isSome_some, Option.isSome_none, List.length_range, List.map_cons, List.map_nil, List.length_cons, List.length_nil, List.length_map, List.set_cons_zero, List.set_cons_succ, List.mem_cons, List.not_mem_nil, List.all_cons, List.all_nil, List.any_cons, List.any_nil, Bool.and_eq_true, Bool.and_true, Bool.true_and, Bool.and_false, Bool.false_and, Bool.or_false, Bool.false_or, Bool.or_true, Bool.true_or, Bool.not_true, Bool.not_false, Bool.not_eq_true, Bool.not_eq_false', Bool.not_eq_true', decide_eq_true_eq, decide_eq_false_iff_not, decide_true, decide_false, and_true, true_and, and_false, false_and, or_true, true_or, or_false, false_or, not_true_eq_false, not_false_eq_true, eq_self, ite_self, ne_eq, Int.reduceNeg, List.cons_ne_nil, S.gc_MOST_SMALL, S.gc_LEAST_SMALL, S.gc_MOST_SIGNS, S.gc_FREE, S.gc_WALL, S.gc_MARKS, S.gc_CELL, S.gc_PRIME, S.gc_MOST_SPEED, S.gc_MANY_CELLS, S.gc_MOST_BODIES_worlds, S.gc_MOST_TICK, S.gc_MANY_SHARED, S.gc_MOST_SAID, S.gc_LINE_END, S.gc_LETTERS, S.gc_BLANK, S.gc_MOST_ROWS, S.gc_MOST_SIDE, S.gc_MOST_PULL, S.gc_MOST_PLAYERS, S.gc_MOST_KINDS, S.gc_MOST_BIRTHS, S.gm_Screen_show, S.gm_Screen_shown, S.gm_Screen_picture, S.gi_Ground, S.gi_Kind, S.gi_Game, S.gi_World, S.gi_Screen, S.gf_Ground, S.gf_Kind, S.gf_Game, S.gf_World, S.gf_Screen, S.gs_NoWorld_NoWorld, S.gcls, S.N_Ground, S.N_rows, S.N_wide, S.N_high, S.N_Kind, S.N_solid, S.N_pull, S.N_program, S.N_Game, S.N_players, S.N_ground, S.N_kinds, S.N_births, S.N_World, S.N_tick, S.N_seed, S.N_shared, S.N_count, S.N_bodies, S.N_said, S.N_Screen, S.N_played, S.N_drawing, S.N_times, S.N_NoWorld, S.N_show, S.N_shown, S.N_picture, S.N_Program, S.w_is_integer, S.w_is_within, S.w_is_sized, S.w_is_sized_non, S.allF_map, S.anyF_map, S.w_is_small, S.w_is_seed, S.w_is_speed, S.w_are_small, S.w_law_sign, S.w_law_spots, *])
theorem w_law_open {r : Gr} {x y w h : Int} (h1 : 1 ≤ w) (h2 : w ≤ 32) (h3 : 1 ≤ h) (h4 : h ≤ 32) (k : Q (.bl (openF r x y w h)) M) : callH (wpF gg fs (n + 2)) F_law_open [r.d, .int x, .int y, .int w, .int h] M Q X hq hx := by
  rw [go_law_open]
  have e1 := fun (Q : DK1) (X : XK1) (hq : Hid Q) (hx : Hid X) => w_law_spots (n := n) (M := M) (Q := Q) (X := X) (hq := hq) (hx := hx) (b := y) h3 h4
  have e2 := fun (Q : DK1) (X : XK1) (hq : Hid Q) (hx : Hid X) => w_law_spots (n := n) (M := M) (Q := Q) (X := X) (hq := hq) (hx := hx) (b := x) h1 h2
  have hF : (spotsF y h).any (fun d => (spotsF x w).any fun a => signF r a d == 35) = !openF r x y w h := by
    simp only [openF, List.all_eq_not_any_not, Bool.not_not, bne]
  clear h1 h2 h3 h4
  walk_at "wp*"
  refine forH_anyB (fun d => (spotsF x w).any fun a => signF r a d == 35) (fun e => ∃ o1 o2, e = [some r.d, some (.int x), some (.int y), some (.int w), some (.int h), o1, o2]) (Q (.bl false) M) ⟨_, _, rfl⟩ trivial ?_ (fun q => ?_) (fun q => ?_)
  · rintro d hd e kk ⟨o1, o2, rfl⟩ h1 h2
    clear k hF
    walk_at "wp*"
    refine forH_anyB (fun a => signF r a d == 35) (fun e => ∃ o2, e = [some r.d, some (.int x), some (.int y), some (.int w), some (.int h), some (.int d), o2]) (Q (.bl false) M) ⟨_, rfl⟩ trivial ?_ h1 (fun q => ?_)
    · rintro a ha e k2 ⟨o2, rfl⟩ h3 h4
      by_cases q : signF r a d = 35
      · have h3 := h3 (by simp [q])
        clear h4
        walk_at "wp*"
      · have h4 := h4 (by simp [q]) _ ⟨some (.int a), rfl⟩
        clear h3
        walk_at "wp*"
    · rintro e ⟨o2, rfl⟩
      walk_at "wp"
      exact h2 q _ ⟨_, _, rfl⟩
  · rw [hF] at q
    simp only [Bool.not_eq_true'] at q
    rw [q] at k
    exact k
  · rintro e ⟨o1, o2, rfl⟩
    rw [hF] at q
    simp only [Bool.not_eq_false'] at q
    rw [q] at k
    walk_at "wp"
    exact k
/-! bodies that are placed -/
structure Pl where
  k : Nat
  x : Int
  y : Int
@[reducible] def plD (p : Pl) : D := .tup [.int p.k, .int p.x, .int p.y]
def kat (ks : List Kd) (k : Nat) : Kd := ks.getD k ⟨1, 1, false, 0⟩
theorem kd_at {ks : List Kd} {k : Nat} (h : k < ks.length) : L2.atI (ks.map kdD) (k : Int) = some (kdD (kat ks k)) := by
  rw [atI_nat, List.getElem?_map, kat, List.getD_eq_getElem?_getD, List.getElem?_eq_getElem h]
  rfl
theorem kat_ok {ks : List Kd} (h : ∀ k ∈ ks, KdOK k) (k : Nat) : KdOK (kat ks k) := by
  rw [kat, List.getD_eq_getElem?_getD]
  cases e : ks[k]? with
  | none => exact ⟨by decide, by decide, by decide⟩
  | some a => exact h a (List.mem_of_getElem? e)
def mn (i j : Int) : Int := if j < i then j else i
def mx (i j : Int) : Int := if j > i then j else i
def commonF (ks : List Kd) (p q : Pl) : Bool :=
  decide (mn (p.x + (kat ks p.k).w) (q.x + (kat ks q.k).w) - mx p.x q.x > 0) && decide (mn (p.y + (kat ks p.k).h) (q.y + (kat ks q.k).h) - mx p.y q.y > 0)
theorem w_law_common {ks : List Kd} {p q : Pl} (h1 : p.k < ks.length) (h2 : q.k < ks.length) : callH (wpF gg fs (n + 1)) F_law_common [.lst (ks.map kdD), .tup [.int p.k, .int p.x, .int p.y], .tup [.int q.k, .int q.x, .int q.y]] M Q X hq hx = Q (.bl (commonF ks p q)) M := by
  have e1 := kd_at h1
  have e2 := kd_at h2
  have f1 : ∀ i j : Int, (if j < i then j else i) = mn i j := fun _ _ => rfl
  have f2 : ∀ i j : Int, (if j > i then j else i) = mx i j := fun _ _ => rfl
  rw [go_law_common]
  walk_at "wp*"
  exact fin_and
def clearF (r : Gr) (ks : List Kd) (p : Pl) (ps : List Pl) : Bool := openF r p.x p.y (kat ks p.k).w (kat ks p.k).h && (!(kat ks p.k).s || !ps.any fun q => (kat ks q.k).s && commonF ks p q)
theorem w_law_clear {r : Gr} {ks : List Kd} {p : Pl} {ps : List Pl} {l : Addr} (hks : ∀ k ∈ ks, KdOK k) (h1 : p.k < ks.length) (h2 : ∀ q ∈ ps, q.k < ks.length) (hl : M l = some (.lst (ps.map plD)))
    (k : Q (.bl (clearF r ks p ps)) M) : callH (wpF gg fs (n + 3)) F_law_clear [r.d, .lst (ks.map kdD), .int p.k, .int p.x, .int p.y, .loc l] M Q X hq hx := by
  have e1 := kd_at h1
  have ok := kat_ok hks p.k
  rw [go_law_clear]
  walk_at "wp*"
  refine w_law_open ok.w.1 ok.w.2 ok.h.1 ok.h.2 ?_
  by_cases b1 : openF r p.x p.y (kat ks p.k).w (kat ks p.k).h = true
  · by_cases b2 : (kat ks p.k).s = true
    · have hF : (ps.any fun q => (kat ks q.k).s && commonF ks p q) = !clearF r ks p ps := by
        simp only [clearF, b1, b2, Bool.true_and, Bool.not_true, Bool.false_or, Bool.not_not]
      have hl' := hl
      clear hks ok
      walk_at "wp*"
      refine forH_anyB (fun q => (kat ks q.k).s && commonF ks p q) (fun e => ∃ o, e = [some r.d, some (.lst (ks.map kdD)), some (.int p.k), some (.int p.x), some (.int p.y), some (.loc l), o]) (Q (.bl false) M) ⟨_, rfl⟩ rfl ?_ (fun q => ?_) (fun q => ?_)
      · rintro q hq e kk ⟨o, rfl⟩ h3 h4
        have e2 := kd_at (h2 q hq)
        have e3 := fun (Q : DK1) (X : XK1) (hq : Hid Q) (hx : Hid X) => w_law_common (n := n + 1) (M := M) (Q := Q) (X := X) (hq := hq) (hx := hx) h1 (h2 q ‹_›)
        clear h2 hF k
        by_cases b3 : (kat ks q.k).s = true
        · by_cases b4 : commonF ks p q = true
          · have h3 := h3 (by simp [b3, b4])
            clear h4
            walk_at "wp*"
          · have h4 := h4 (by simp [b4]) _ ⟨some (plD q), rfl⟩
            clear h3
            walk_at "wp*"
        · have h4 := h4 (by simp [b3]) _ ⟨some (plD q), rfl⟩
          clear h3
          walk_at "wp*"
      · rw [hF] at q
        simp only [Bool.not_eq_true'] at q
        rw [q] at k
        exact k
      · rintro e ⟨o, rfl⟩
        rw [hF] at q
        simp only [Bool.not_eq_false'] at q
        rw [q] at k
        walk_at "wp"
        exact k
    · have : clearF r ks p ps = true := by simp [clearF, b1, b2]
      rw [this] at k
      walk_at "wp*"
  · have : clearF r ks p ps = false := by simp [clearF, b1]
    rw [this] at k
    walk_at "wp*"
end
end S

set_option Elab.async false
set_option linter.all false
set_option maxRecDepth 100000
set_option maxHeartbeats 4000000
/-! PE: bodies and worlds that the law draws. -/
namespace S
open Lw Wp
open PySem (Addr)
local macro_rules | `(tactic| walk_at "wp") => `(tactic| try simp -dsimp -implicitDefEqProofs only [↓Wp.u_var, ↓Wp.u_cst, ↓Wp.u_glb, ↓Wp.u_fld, ↓Wp.u_bin, ↓Wp.u_neg, ↓Wp.u_cmp, ↓Wp.u_chn, ↓Wp.u_isN, ↓Wp.u_notN, ↓Wp.u_isB, ↓Wp.u_and, ↓Wp.u_or, ↓Wp.u_not, ↓Wp.u_ite, ↓Wp.u_tup, ↓Wp.u_lst, ↓Wp.u_dct0, ↓Wp.u_dct1, ↓Wp.u_call, ↓Wp.u_make, ↓Wp.u_meth, ↓Wp.u_bi, ↓Wp.u_bm, ↓Wp.u_idx, ↓Wp.u_sl, ↓Wp.u_rev, ↓Wp.u_lc, ↓Wp.u_frz, ↓Wp.u_nil, ↓Wp.u_cons, ↓Wp.u_tval, ↓Wp.u_tand, ↓Wp.u_tor, ↓Wp.u_tnot, ↓Wp.u_tn, ↓Wp.u_ts, ↓Wp.u_on, ↓Wp.u_os, ↓Wp.u_of, ↓Wp.u_rng1, ↓Wp.u_rng2, ↓Wp.u_rng3, ↓Wp.u_enum, ↓Wp.u_zip, ↓Wp.u_tname, ↓Wp.u_tfld, ↓Wp.u_tidx, ↓Wp.u_ttup, ↓Wp.u_tnil, ↓Wp.u_tcons, ↓Wp.u_set, ↓Wp.u_par, ↓Wp.u_aug, ↓Wp.u_ife, ↓Wp.u_for, ↓Wp.u_whil, ↓Wp.u_ret, ↓Wp.u_retN, ↓Wp.u_raise, ↓Wp.u_exp, ↓Wp.u_pass, ↓Wp.u_brk, ↓Wp.u_cnt, ↓Wp.u_never, ↓Wp.u_try, ↓Wp.u_snil, ↓Wp.u_scons, ↓Wp.u_augf, ↓Wp.u_turnL, ↓Wp.u_turnF, ↓Wp.opt_un, ↓reduceIte, Wp.optH_some, Wp.optH_none, Wp.u_finF, Wp.u_finL, Wp.u_finD, Wp.vr, Wp.bO, Wp.iO, Wp.nonD, Wp.blD, Lw.wipeE, Wp.parE, Wp.deref_non, Wp.deref_bl, Wp.deref_int, Wp.deref_str, Wp.deref_tup, Wp.deref_lst, Wp.deref_ins, Wp.deref_dct, Wp.deref_scr, Wp.deref_loc, Lw.truthF, Lw.lenF, Lw.keyF, Lw.getK, Lw.putK, Lw.idxF, Wp.idx_str, Lw.slF, Lw.revF, Lw.addF, Lw.subF, Wp.mulF_ok, Wp.mulF_r, Wp.mulF_l, Wp.mulF_lst, Wp.mulF_tup, Wp.mulF_str, Lw.fdivF, Lw.modF, Lw.powF, Lw.binF, Lw.augF, Lw.eqF, Lw.flatD, Lw.eqFl, Lw.inF, Lw.intsF, Lw.cmpF, Lw.isiF, Lw.lookF, Lw.fldF, Lw.clsF, Lw.mthF, Lw.strsF, Lw.blsF, Lw.one, Lw.two, Lw.tupleF, Lw.listF, Lw.intF, L2.ixN, Lw.min2F, Lw.max2F, Lw.maxlF, Lw.minlF, Lw.sumF, Lw.strF, Lw.absF, Lw.lrngF, Lw.isisF, Lw.biF, Lw.splitF, Lw.upperF, Lw.getF, Lw.bmF, Lw.extF, Lw.popF, Lw.bmM, Lw.argF, Lw.lstAt, Lw.itemsF, Lw.gdOf, Lw.frzF, Lw.setF, Lw.putFld, Lw.putIdx, Lw.bmT, Lw.bmW, Lw.tgsFit, Wp.dropE_nil, Wp.dropE_cons, Lw.delL, Wp.atI_zero, Wp.atI_pos, Wp.atI_last, Lw.Mem.set_same, Lw.Mem.set_set, Lw.Mem.set_ne, Lw.Mem.del_set, Wp.rngL_length, Wp.join_signs, Wp.mem_swap, Wp.sizeLine_val, Wp.one_inj, List.cons_append, List.nil_append, Int.reduceAbs, Nat.reducePow, Nat.reduceMod, Nat.reduceDiv, Nat.reduceAdd, Nat.reduceMul, Nat.reduceSub, Nat.reduceLT, Nat.reduceLeDiff, Nat.reduceEqDiff, Int.reduceAdd, Int.reduceSub, Int.reduceMul, Int.reduceLT, Int.reduceLE, Int.reduceGT, Int.reduceGE, Int.reduceEq, Int.reduceNe, Int.reducePow, Int.reduceToNat, Int.reduceDiv, Int.reduceMod, reduceCtorEq, Int.cast_ofNat_Int, if_true, if_false, Bool.false_eq_true, Option.some.injEq, Option.map_some, Option.bind_some, Option.map_none, Option.bind_none, Option.join_some, Option.isSome_some, Option.isSome_none, List.length_range, List.map_cons, List.map_nil, List.length_cons, List.length_nil, List.length_map, List.set_cons_zero, List.set_cons_succ, List.mem_cons, List.not_mem_nil, List.all_cons, List.all_nil, List.any_cons, List.any_nil, Bool.and_eq_true, Bool.and_true, Bool.true_and, Bool.and_false, Bool.false_and, Bool.or_false, Bool.false_or, Bool.or_true, Bool.true_or, Bool.not_true, Bool.not_false, Bool.not_eq_true, Bool.not_eq_false', Bool.not_eq_true', decide_eq_true_eq, decide_eq_false_iff_not, decide_true, decide_false, and_true, true_and, and_false, false_and, or_true, true_or, or_false, false_or, not_true_eq_false, not_false_eq_true, eq_self, ite_self, ne_eq, Int.reduceNeg, List.cons_ne_nil, S.gc_MOST_SMALL, S.gc_LEAST_SMALL, S.gc_MOST_SIGNS, S.gc_FREE, S.gc_WALL, S.gc_MARKS, S.gc_CELL, S.gc_PRIME, S.gc_MOST_SPEED, S.gc_MANY_CELLS, S.gc_MOST_BODIES_worlds, S.gc_MOST_TICK, S.gc_MANY_SHARED, S.gc_MOST_SAID, S.gc_LINE_END, S.gc_LETTERS, S.gc_BLANK, S.gc_MOST_ROWS, S.gc_MOST_SIDE, S.gc_MOST_PULL, S.gc_MOST_PLAYERS, S.gc_MOST_KINDS, S.gc_MOST_BIRTHS, S.gm_Screen_show, S.gm_Screen_shown, S.gm_Screen_picture, S.gi_Ground, S.gi_Kind, S.gi_Game, S.gi_World, S.gi_Screen, S.gf_Ground, S.gf_Kind, S.gf_Game, S.gf_World, S.gf_Screen, S.gs_NoWorld_NoWorld, S.gcls, S.N_Ground, S.N_rows, S.N_wide, S.N_high, S.N_Kind, S.N_solid, S.N_pull, S.N_program, S.N_Game, S.N_players, S.N_ground, S.N_kinds, S.N_births, S.N_World, S.N_tick, S.N_seed, S.N_shared, S.N_count, S.N_bodies, S.N_said, S.N_Screen, S.N_played, S.N_drawing, S.N_times, S.N_NoWorld, S.N_show, S.N_shown, S.N_picture, S.N_Program, S.w_is_integer, S.w_is_within, S.w_is_sized, S.w_is_sized_non, S.allF_map, S.anyF_map, S.w_is_small, S.w_is_seed, S.w_is_speed, S.w_are_small, S.w_law_sign, S.w_law_spots, S.w_law_common])
local macro_rules | `(tactic| walk_at "wp*") => `(tactic| try simp -dsimp -implicitDefEqProofs only [↓Wp.u_var, ↓Wp.u_cst, ↓Wp.u_glb, ↓Wp.u_fld, ↓Wp.u_bin, ↓Wp.u_neg, ↓Wp.u_cmp, ↓Wp.u_chn, ↓Wp.u_isN, ↓Wp.u_notN, ↓Wp.u_isB, ↓Wp.u_and, ↓Wp.u_or, ↓Wp.u_not, ↓Wp.u_ite, ↓Wp.u_tup, ↓Wp.u_lst, ↓Wp.u_dct0, ↓Wp.u_dct1, ↓Wp.u_call, ↓Wp.u_make, ↓Wp.u_meth, ↓Wp.u_bi, ↓Wp.u_bm, ↓Wp.u_idx, ↓Wp.u_sl, ↓Wp.u_rev, ↓Wp.u_lc, ↓Wp.u_frz, ↓Wp.u_nil, ↓Wp.u_cons, ↓Wp.u_tval, ↓Wp.u_tand, ↓Wp.u_tor, ↓Wp.u_tnot, ↓Wp.u_tn, ↓Wp.u_ts, ↓Wp.u_on, ↓Wp.u_os, ↓Wp.u_of, ↓Wp.u_rng1, ↓Wp.u_rng2, ↓Wp.u_rng3, ↓Wp.u_enum, ↓Wp.u_zip, ↓Wp.u_tname, ↓Wp.u_tfld, ↓Wp.u_tidx, ↓Wp.u_ttup, ↓Wp.u_tnil, ↓Wp.u_tcons, ↓Wp.u_set, ↓Wp.u_par, ↓Wp.u_aug, ↓Wp.u_ife, ↓Wp.u_for, ↓Wp.u_whil, ↓Wp.u_ret, ↓Wp.u_retN, ↓Wp.u_raise, ↓Wp.u_exp, ↓Wp.u_pass, ↓Wp.u_brk, ↓Wp.u_cnt, ↓Wp.u_never, ↓Wp.u_try, ↓Wp.u_snil, ↓Wp.u_scons, ↓Wp.u_augf, ↓Wp.u_turnL, ↓Wp.u_turnF, ↓Wp.opt_un, ↓reduceIte, Wp.optH_some, Wp.optH_none, Wp.u_finF, Wp.u_finL, Wp.u_finD, Wp.vr, Wp.bO, Wp.iO, Wp.nonD, Wp.blD, Lw.wipeE, Wp.parE, Wp.deref_non, Wp.deref_bl, Wp.deref_int, Wp.deref_str, Wp.deref_tup, Wp.deref_lst, Wp.deref_ins, Wp.deref_dct, Wp.deref_scr, Wp.deref_loc, Lw.truthF, Lw.lenF, Lw.keyF, Lw.getK, Lw.putK, Lw.idxF, Wp.idx_str, Lw.slF, Lw.revF, Lw.addF, Lw.subF, Wp.mulF_ok, Wp.mulF_r, Wp.mulF_l, Wp.mulF_lst, Wp.mulF_tup, Wp.mulF_str, Lw.fdivF, Lw.modF, Lw.powF, Lw.binF, Lw.augF, Lw.eqF, Lw.flatD, Lw.eqFl, Lw.inF, Lw.intsF, Lw.cmpF, Lw.isiF, Lw.lookF, Lw.fldF, Lw.clsF, Lw.mthF, Lw.strsF, Lw.blsF, Lw.one, Lw.two, Lw.tupleF, Lw.listF, Lw.intF, L2.ixN, Lw.min2F, Lw.max2F, Lw.maxlF, Lw.minlF, Lw.sumF, Lw.strF, Lw.absF, Lw.lrngF, Lw.isisF, Lw.biF, Lw.splitF, Lw.upperF, Lw.getF, Lw.bmF, Lw.extF, Lw.popF, Lw.bmM, Lw.argF, Lw.lstAt, Lw.itemsF, Lw.gdOf, Lw.frzF, Lw.setF, Lw.putFld, Lw.putIdx, Lw.bmT, Lw.bmW, Lw.tgsFit, Wp.dropE_nil, Wp.dropE_cons, Lw.delL, Wp.atI_zero, Wp.atI_pos, Wp.atI_last, Lw.Mem.set_same, Lw.Mem.set_set, Lw.Mem.set_ne, Lw.Mem.del_set, Wp.rngL_length, Wp.join_signs, Wp.mem_swap, Wp.sizeLine_val, Wp.one_inj, List.cons_append, List.nil_append, Int.reduceAbs, Nat.reducePow, Nat.reduceMod, Nat.reduceDiv, Nat.reduceAdd, Nat.reduceMul, Nat.reduceSub, Nat.reduceLT, Nat.reduceLeDiff, Nat.reduceEqDiff, Int.reduceAdd, Int.reduceSub, Int.reduceMul, Int.reduceLT, Int.reduceLE, Int.reduceGT, Int.reduceGE, Int.reduceEq, Int.reduceNe, Int.reducePow, Int.reduceToNat, Int.reduceDiv, Int.reduceMod, reduceCtorEq, Int.cast_ofNat_Int, if_true, if_false, Bool.false_eq_true, Option.some.injEq, Option.map_some, Option.bind_some, Option.map_none, Option.bind_none, Option.join_some, Option.isSome_some, Option.isSome_none, List.length_range, List.map_cons, List.map_nil, List.length_cons, List.length_nil, List.length_map, List.set_cons_zero, List.set_cons_succ, List.mem_cons, List.not_mem_nil, List.all_cons, List.all_nil, List.any_cons, List.any_nil, Bool.and_eq_true, Bool.and_true, Bool.true_and, Bool.and_false, Bool.false_and, Bool.or_false, Bool.false_or, Bool.or_true, Bool.true_or, Bool.not_true, Bool.not_false, Bool.not_eq_true, Bool.not_eq_false', Bool.not_eq_true', decide_eq_true_eq, decide_eq_false_iff_not, decide_true, decide_false, and_true, true_and, and_false, false_and, or_true, true_or, or_false, false_or, not_true_eq_false, not_false_eq_true, eq_self, ite_self, ne_eq, Int.reduceNeg, List.cons_ne_nil, S.gc_MOST_SMALL, S.gc_LEAST_SMALL, S.gc_MOST_SIGNS, S.gc_FREE, S.gc_WALL, S.gc_MARKS, S.gc_CELL, S.gc_PRIME, S.gc_MOST_SPEED, S.gc_MANY_CELLS, S.gc_MOST_BODIES_worlds, S.gc_MOST_TICK, S.gc_MANY_SHARED, S.gc_MOST_SAID, S.gc_LINE_END, S.gc_LETTERS, S.gc_BLANK, S.gc_MOST_ROWS, S.gc_MOST_SIDE, S.gc_MOST_PULL, S.gc_MOST_PLAYERS, S.gc_MOST_KINDS, S.gc_MOST_BIRTHS, S.gm_Screen_show, S.gm_Screen_shown, S.gm_Screen_picture, S.gi_Ground, S.gi_Kind, S.gi_Game, S.gi_World, S.gi_Screen, S.gf_Ground, S.gf_Kind, S.gf_Game, S.gf_World, S.gf_Screen, S.gs_NoWorld_NoWorld, S.gcls, S.N_Ground, S.N_rows, S.N_wide, S.N_high, S.N_Kind, S.N_solid, S.N_pull, S.N_program, S.N_Game, S.N_players, S.N_ground, S.N_kinds, S.N_births, S.N_World, S.N_tick, S.N_seed, S.N_shared, S.N_count, S.N_bodies, S.N_said, S.N_Screen, S.N_played, S.N_drawing, S.N_times, S.N_NoWorld, S.N_show, S.N_shown, S.N_picture, S.N_Program, S.w_is_integer, S.w_is_within, S.w_is_sized, S.w_is_sized_non, S.allF_map, S.anyF_map, S.w_is_small, S.w_is_seed, S.w_is_speed, S.w_are_small, S.w_law_sign, S.w_law_spots, S.w_law_common, *])
section
variable {n : Nat} {M : Mem} {Q : DK1} {X : XK1} {hq : Hid Q} {hx hx' : Hid X}
theorem pickL_spec {a l : Addr} {h : Hand} {xs : List D} (n1 : a ≠ l) (n2 : l ≠ a) (ha : M a = some (handMO h)) (hk : HandOK h) (hl : M l = some (.lst xs)) (hxs : 0 < xs.length) (hl2 : xs.length < 1073741824)
    (k : ∀ x h', x ∈ xs → HandOK h' → Q x (M.set a (handMO h'))) : callH (wpF gg fs (n + 2)) F_law_pick [.loc a, .loc l] M Q X hq hx' := by
  rw [go_law_pick]
  walk_at "wp*"
  refine take_spec ha hk (by omega) (by omega) fun v h1 hk1 v0 v1 => ?_
  obtain ⟨x, hm, _, e⟩ := atI_some v0 v1
  walk_at "wp*" <;> exact k x h1 hm hk1
theorem place_spec {a l : Addr} {h : Hand} {r : Gr} {ks : List Kd} {kd : Nat} {ps : List Pl} (n1 : a ≠ l) (n2 : l ≠ a) (ha : M a = some (handMO h)) (hk : HandOK h) (hl : M l = some (.lst (ps.map plD)))
    (h1 : kd < ks.length) (h2 : ∀ q ∈ ps, q.k < ks.length) (h3 : ps.length < 1073741824)
    (k : ∀ x y h', HandOK h' → Q (.tup [.int x, .int y]) (M.set a (handMO h'))) : callH (wpF gg fs (n + 3)) F_law_place [.loc a, r.d, .lst (ks.map kdD), .int kd, .loc l] M Q X hq hx' := by
  have e1 := kd_at h1
  obtain ⟨s0, h0, _, l0, e0⟩ := r.row (y := 0) (by omega) (by have := r.h; omega)
  have b0 : s0.length ≤ 16777216 := by have := r.w; omega
  have b1 : r.W ≤ 16777216 := by have := r.w; omega
  have bw := r.w
  have bh := r.h
  clear h0
  rw [go_law_place]
  refine cutF (fun e m => ∃ h, e = [some (.loc a), some r.d, some (.lst (ks.map kdD)), some (.int kd), some (.loc l), none, none, none, none, none] ∧ HandOK h ∧ m = M.set a (handMO h)) ?_ ?_
  · intro J kj
    by_cases hp : 0 < ps.length
    · walk_at "wp*"
      simp only [Int.natCast_pos, hp, if_true]
      refine take_spec ha hk (by decide) (by decide) fun v h1 hk1 v0 v1 => ?_
      walk_at "wp*"
      split
      · refine pickL_spec n1 n2 Mem.set_same hk1 (by rw [Mem.set_ne n2]; exact hl) (by simpa using hp) (by simpa using h3) fun x h4 hx4 hk4 => ?_
        obtain ⟨q, hq, rfl⟩ := List.mem_map.mp hx4
        have e2 := kd_at (h2 q hq)
        walk_at "wp*"
        refine take_spec Mem.set_same hk4 (by decide) (by decide) fun w h5 hk5 w0 w1 => ?_
        walk_at "wp*"
        refine take_spec Mem.set_same hk5 (by decide) (by decide) fun u h6 hk6 u0 u1 => ?_
        walk_at "wp*"
        split
        · refine take_spec Mem.set_same hk6 (by decide) (by decide) fun t h7 hk7 t0 t1 => ?_
          walk_at "wp*" <;> exact k _ _ _ hk7
        · split
          · refine take_spec Mem.set_same hk6 (by decide) (by decide) fun t h7 hk7 t0 t1 => ?_
            walk_at "wp*" <;> exact k _ _ _ hk7
          · split
            · refine take_spec Mem.set_same hk6 (by decide) (by decide) fun t h7 hk7 t0 t1 => ?_
              walk_at "wp*" <;> exact k _ _ _ hk7
            · refine take_spec Mem.set_same hk6 (by decide) (by decide) fun t h7 hk7 t0 t1 => ?_
              walk_at "wp*" <;> exact k _ _ _ hk7
      · exact kj _ _ ⟨h1, rfl, hk1, rfl⟩
    · have : ps = [] := List.eq_nil_of_length_eq_zero (by omega)
      subst this
      have kj := kj _ _ ⟨h, rfl, hk, (Mem.set_self ha).symm⟩
      walk_at "wp*"
  · rintro e m ⟨h4, rfl, hk4, rfl⟩
    walk_at "wp*"
    refine take_spec Mem.set_same hk4 (by omega) (by omega) fun v h5 hk5 v0 v1 => ?_
    walk_at "wp*"
    refine take_spec Mem.set_same hk5 (by omega) (by omega) fun v h6 hk6 v0 v1 => ?_
    walk_at "wp*" <;> exact k _ _ _ hk6
structure PsOK (r : Gr) (ks : List Kd) (ps : List Pl) : Prop where
  k : ∀ p ∈ ps, p.k < ks.length
  c : ∀ i p, ps[i]? = some p → clearF r ks p (ps.take i) = true
theorem PsOK.nil {r : Gr} {ks : List Kd} : PsOK r ks [] := ⟨by simp, by simp⟩
theorem PsOK.snoc {r : Gr} {ks : List Kd} {ps : List Pl} {p : Pl} (h : PsOK r ks ps) (h1 : p.k < ks.length) (h2 : clearF r ks p ps = true) : PsOK r ks (ps ++ [p]) where
  k := fun q hq => by
    rcases List.mem_append.mp hq with hq | hq
    · exact h.k q hq
    · rw [List.mem_singleton.mp hq]
      exact h1
  c := fun i q hq => by
    by_cases hi : i < ps.length
    · rw [List.getElem?_append_left hi] at hq
      rw [List.take_append_of_le_length (by omega)]
      exact h.c i q hq
    · rw [List.getElem?_append_right (by omega)] at hq
      have e : i - ps.length = 0 := by
        have := (List.getElem?_eq_some_iff.mp hq).1
        simp only [List.length_cons, List.length_nil] at this
        omega
      rw [e] at hq
      simp only [List.getElem?_cons_zero, Option.some.injEq] at hq
      subst hq
      have : i = ps.length := by omega
      subst this
      rw [List.take_left]
      exact h2
theorem placed_spec {a : Addr} {h : Hand} {r : Gr} {ks : List Kd} {many : Int} (ha : M a = some (handMO h)) (hk : HandOK h) (hks : ∀ k ∈ ks, KdOK k) (hk0 : 0 < ks.length) (hk8 : ks.length ≤ 8) (hm : 0 ≤ many) (hm2 : many ≤ 32)
    (k : ∀ ps h', HandOK h' → PsOK r ks ps → ps.length ≤ many → Q (.lst (ps.map plD)) (M.set a (handMO h'))) : callH (wpF gg fs (n + 4)) F_law_placed [.loc a, r.d, .lst (ks.map kdD), .int many] M Q X hq hx' := by
  have r1 : -4611686018427387904 ≤ many := by omega
  have r2 : many < 4611686018427387904 := by omega
  rw [go_law_placed]
  walk_at "wp*"
  refine new_i fun l hl => ?_
  have n1 : a ≠ l := Mem.ne_of_none ha hl
  have n2 : l ≠ a := n1.symm
  walk_at "wp*"
  refine forH_inv (fun rest e m => ∃ h ps o5 o6 o7 o8 o9, e = [some (.loc a), some r.d, some (.lst (ks.map kdD)), some (.int many), some (.loc l), o5, o6, o7, o8, o9] ∧ m = (M.set a (handMO h)).set l (.lst (ps.map plD)) ∧ HandOK h ∧ ps.length + rest.length ≤ many.toNat ∧ PsOK r ks ps)
    ⟨h, [], none, none, none, none, none, rfl, by rw [Mem.set_self ha]; rfl, hk, by simp [rngL_length], .nil⟩ ?_ ?_
  · rintro d rest e m kk ⟨h1, ps, o5, o6, o7, o8, o9, rfl, rfl, hk1, hn, hps⟩ kn
    refine ⟨trivial, ?_⟩
    simp only [List.length_cons] at hn
    clear k ha r1 r2
    walk_at "wp"
    refine take_spec (by rw [Mem.set_ne n1]; exact Mem.set_same) hk1 (by omega) (by omega) fun v h2 hk2 v0 v1 => ?_
    rw [mem_swap n1]
    walk_at "wp"
    obtain ⟨kd, rfl⟩ : ∃ kd : Nat, v = kd := ⟨v.toNat, by omega⟩
    refine forH_inv (fun rest2 e m => ∃ h o7 o8 o9, e = [some (.loc a), some r.d, some (.lst (ks.map kdD)), some (.int many), some (.loc l), some d, some (.int kd), o7, o8, o9] ∧ m = (M.set a (handMO h)).set l (.lst (ps.map plD)) ∧ HandOK h)
      ⟨h2, _, _, _, rfl, rfl, hk2⟩ ?_ ?_
    · rintro d2 rest2 e m k2 ⟨h3, p7, p8, p9, rfl, rfl, hk3⟩ kn2
      refine ⟨trivial, ?_⟩
      walk_at "wp"
      refine place_spec n1 n2 (by rw [Mem.set_ne n1]; exact Mem.set_same) hk3 Mem.set_same (by omega) hps.k (by omega) fun x y h4 hk4 => ?_
      rw [mem_swap n1]
      walk_at "wp"
      refine w_law_clear (p := ⟨kd, x, y⟩) hks (show kd < _ by omega) hps.k Mem.set_same ?_
      by_cases hc : clearF r ks ⟨kd, x, y⟩ ps = true
      · have b1 : ps.length < 16777216 := by omega
        have kn3 := kn _ _ ⟨h4, ps ++ [⟨kd, x, y⟩], some d, some (.int kd), some d2, some (.int x), some (.int y), rfl, rfl, hk4, by simp only [List.length_append, List.length_cons, List.length_nil]; omega, hps.snoc (show kd < _ by omega) hc⟩
        simp only [List.map_append, List.map_cons, List.map_nil] at kn3
        clear kn kn2
        walk_at "wp*"
      · have kn3 := kn2 _ _ ⟨h4, some d2, some (.int x), some (.int y), rfl, rfl, hk4⟩
        clear kn kn2
        walk_at "wp*"
    · rintro e m ⟨h3, p7, p8, p9, rfl, rfl, hk3⟩
      refine ⟨trivial, ?_⟩
      walk_at "wp"
      exact kn _ _ ⟨h3, ps, _, _, _, _, _, rfl, rfl, hk3, by omega, hps⟩
  · rintro e m ⟨h1, ps, o5, o6, o7, o8, o9, rfl, rfl, hk1, hn, hps⟩
    refine ⟨trivial, ?_⟩
    have := k ps h1 hk1 hps (by simp only [List.length_nil] at hn; omega)
    clear k ha
    walk_at "wp*"
/-! bodies -/
structure Bd where
  num : Int
  p : Pl
  dx : Int
  dy : Int
  own : Int
  cells : List Int
@[reducible] def bdD (b : Bd) : D := .tup [.int b.num, .int b.p.k, .int b.p.x, .int b.p.y, .int b.dx, .int b.dy, .int b.own, .tup (b.cells.map .int)]
structure BdOK (pl : Int) (b : Bd) : Prop where
  num : 0 ≤ b.num
  dx : -16 ≤ b.dx ∧ b.dx ≤ 16
  dy : -16 ≤ b.dy ∧ b.dy ≤ 16
  own : -1 ≤ b.own ∧ b.own ≤ pl - 1
  cells : b.cells.length = 4 ∧ b.cells.all smallB = true
/-- bodies in their order, the numbers below a bound -/
structure BsOK (r : Gr) (ks : List Kd) (pl : Int) (bs : List Bd) (c : Int) : Prop where
  b : ∀ b ∈ bs, BdOK pl b ∧ b.num < c
  asc : bs.Pairwise fun a b => a.num < b.num
  p : PsOK r ks (bs.map Bd.p)
theorem bodies_spec {a : Addr} {h : Hand} {r : Gr} {ks : List Kd} {many pl : Int} (ha : M a = some (handMO h)) (hk : HandOK h) (hks : ∀ k ∈ ks, KdOK k) (hk0 : 0 < ks.length) (hk8 : ks.length ≤ 8) (hm : 0 ≤ many) (hm2 : many ≤ 32) (hp : 1 ≤ pl) (hp2 : pl ≤ 4)
    (k : ∀ bs h', HandOK h' → BsOK r ks pl bs 1000 → bs.length ≤ many → Q (.tup (bs.map bdD)) (M.set a (handMO h'))) : callH (wpF gg fs (n + 5)) F_law_bodies [.loc a, r.d, .lst (ks.map kdD), .int pl, .int many] M Q X hq hx' := by
  rw [go_law_bodies]
  walk_at "wp"
  refine new_i fun l hl => ?_
  have n1 : a ≠ l := Mem.ne_of_none ha hl
  have n2 : l ≠ a := n1.symm
  walk_at "wp"
  refine take_spec (by rw [Mem.set_ne n1]; exact ha) hk (by decide) (by decide) fun v h1 hk1 v0 v1 => ?_
  rw [show ((M.set l (.lst [])).set a (handMO h1)) = (M.set a (handMO h1)).set l (.lst []) from Mem.set_swap n2]
  walk_at "wp"
  refine placed_spec (by rw [Mem.set_ne n1]; exact Mem.set_same) hk1 hks hk0 hk8 hm hm2 fun ps h2 hk2 hps hpl => ?_
  rw [mem_swap n1]
  walk_at "wp"
  refine forH_inv (fun rest e m => ∃ h bs ps2 v o7 o8 o9 o10 o11 o12 o13 o14, e = [some (.loc a), some r.d, some (.lst (ks.map kdD)), some (.int pl), some (.int many), some (.loc l), some (.int v), o7, o8, o9, o10, o11, o12, o13, o14] ∧ m = (M.set a (handMO h)).set l (.lst (bs.map bdD)) ∧ HandOK h ∧
      rest = ps2.map plD ∧ bs.map Bd.p ++ ps2 = ps ∧ 0 ≤ v ∧ v ≤ 3 + 5 * bs.length ∧ (∀ b ∈ bs, BdOK pl b ∧ b.num < v) ∧ bs.Pairwise fun a b => a.num < b.num)
    ⟨h2, [], ps, v, none, none, none, none, none, none, none, none, rfl, rfl, hk2, rfl, rfl, v0, by simp only [List.length_nil]; omega, by simp, .nil⟩ ?_ ?_
  · rintro d rest e m kk ⟨h3, bs, ps2, num, o7, o8, o9, o10, o11, o12, o13, o14, rfl, rfl, hk3, hr, rfl, w0, w1, hb, has⟩ kn
    refine ⟨trivial, ?_⟩
    obtain ⟨p, ps3, rfl, rfl, rfl⟩ : ∃ p ps3, ps2 = p :: ps3 ∧ plD p = d ∧ ps3.map plD = rest := by
      cases ps2 with
      | nil => cases hr
      | cons p ps3 =>
        injection hr with q1 q2
        exact ⟨p, ps3, rfl, q1.symm, q2.symm⟩
    clear k ha hl hr
    walk_at "wp"
    refine speed_spec (by rw [Mem.set_ne n1]; exact Mem.set_same) hk3 fun dx h4 x0 x1 hk4 => ?_
    rw [mem_swap n1]
    walk_at "wp"
    refine speed_spec (by rw [Mem.set_ne n1]; exact Mem.set_same) hk4 fun dy h5 y0 y1 hk5 => ?_
    rw [mem_swap n1]
    walk_at "wp"
    refine take_spec (by rw [Mem.set_ne n1]; exact Mem.set_same) hk5 (by omega) (by omega) fun ow h6 hk6 u0 u1 => ?_
    rw [mem_swap n1]
    walk_at "wp"
    refine smalls_run (by rw [Mem.set_ne n1]; exact Mem.set_same) hk6 (by decide) (fun _ => trivial) (fun d => rfl) fun is h7 hl7 hs7 hk7 => ?_
    rw [mem_swap n1]
    have hbl : bs.length < 16777216 := by
      simp only [List.length_append, List.length_cons, List.length_map] at hpl
      omega
    clear hks hk0 hk8 hm hm2 hps hpl
    walk_at "wp*"
    refine take_spec (by rw [Mem.set_ne n1]; exact Mem.set_same) hk7 (by decide) (by decide) fun s h8 hk8 s0 s1 => ?_
    rw [mem_swap n1]
    walk_at "wp*"
    refine take_spec (by rw [Mem.set_ne n1]; exact Mem.set_same) hk8 (by decide) (by decide) fun t h9 hk9 t0 t1 => ?_
    rw [mem_swap n1]
    have hmul : MulOk (s / 6) t := .inl ⟨by omega, by omega⟩
    obtain ⟨z, hz, z0, z1⟩ : ∃ z, s / 6 * t = z ∧ 0 ≤ z ∧ z ≤ 4 := by
      have : s / 6 = 0 ∨ s / 6 = 1 := by omega
      rcases this with q | q <;> rw [q] <;> exact ⟨_, rfl, by omega, by omega⟩
    generalize hkk : kk = kk0 at kn ⊢
    walk_at "wp*"
    refine kn _ _ ⟨h9, bs ++ [⟨num, p, dx, dy, ow - 1, is⟩], ps3, num + 1 + z, _, _, _, _, _, _, _, _, rfl, by simp, hk9, rfl, by simp, by omega, by simp only [List.length_append, List.length_cons, List.length_nil]; omega, ?_, ?_⟩
    · intro b hb2
      rcases List.mem_append.mp hb2 with hb2 | hb2
      · have := hb b hb2
        exact ⟨this.1, by omega⟩
      · rw [List.mem_singleton.mp hb2]
        exact ⟨⟨w0, ⟨x0, x1⟩, ⟨y0, y1⟩, ⟨by show -1 ≤ ow - 1; omega, by show ow - 1 ≤ _; omega⟩, ⟨by rw [hl7]; rfl, hs7⟩⟩, by show num < _; omega⟩
    · rw [List.pairwise_append]
      refine ⟨has, List.pairwise_singleton _ _, fun x hx y hy => ?_⟩
      rw [List.mem_singleton.mp hy]
      exact (hb x hx).2
  · rintro e m ⟨h3, bs, ps2, num, o7, o8, o9, o10, o11, o12, o13, o14, rfl, rfl, hk3, hr, rfl, w0, w1, hb, has⟩
    refine ⟨trivial, ?_⟩
    have : ps2 = [] := by
      cases ps2 with
      | nil => rfl
      | cons p ps3 => cases hr
    subst this
    simp only [List.append_nil, List.length_map] at hps hpl
    have := k bs h3 hk3 ⟨fun b hb2 => ⟨(hb b hb2).1, by have := (hb b hb2).2; omega⟩, has, hps⟩ hpl
    clear k ha hr
    walk_at "wp*" <;> exact this
/-- the greatest number is the last -/
theorem last_num {bs : List Bd} (has : bs.Pairwise fun a b => a.num < b.num) {z : Bd} {ys : List Bd} (e : bs = ys ++ [z]) : ∀ b ∈ bs, b.num ≤ z.num := by
  subst e
  rw [List.pairwise_append] at has
  intro b hb
  rcases List.mem_append.mp hb with hb | hb
  · have := has.2.2 b hb z (by simp)
    omega
  · rw [List.mem_singleton.mp hb]
    omega
theorem count_spec {a : Addr} {h : Hand} {r : Gr} {ks : List Kd} {pl : Int} {bs : List Bd} (ha : M a = some (handMO h)) (hk : HandOK h) (hb : BsOK r ks pl bs 1000)
    (k : ∀ c h', HandOK h' → 0 ≤ c → c ≤ 1010 → BsOK r ks pl bs c → Q (.int c) (M.set a (handMO h'))) : callH (wpF gg fs (n + 2)) F_law_count_of [.loc a, .tup (bs.map bdD)] M Q X hq hx' := by
  rw [go_law_count_of]
  rcases List.eq_nil_or_concat bs with rfl | ⟨ys, z, hz⟩
  · walk_at "wp*"
    refine take_spec ha hk (by decide) (by decide) fun v h1 hk1 v0 v1 => ?_
    walk_at "wp"
    exact k _ _ hk1 (by omega) (by omega) ⟨by simp, .nil, hb.p⟩
  · rw [List.concat_eq_append] at hz
    have hl : 0 < bs.length := by rw [hz]; simp
    have hlast := last_num hb.asc hz
    have e1 : L2.atI (bs.map bdD) (-1) = some (bdD z) := by
      rw [hz, List.map_append]
      exact atI_last
    have hzb := hb.b z (by rw [hz]; simp)
    have hz0 := hzb.1.num
    clear hz
    walk_at "wp"
    simp only [Int.natCast_pos, hl, if_true]
    walk_at "wp*"
    refine take_spec ha hk (by decide) (by decide) fun v h1 hk1 v0 v1 => ?_
    walk_at "wp"
    refine k _ _ hk1 (by omega) (by omega) ⟨fun b hb2 => ⟨(hb.b b hb2).1, by have := hlast b hb2; omega⟩, hb.asc, hb.p⟩
/-! worlds -/
structure Wd where
  tick : Int
  seed : Int
  sh : List Int
  c : Int
  bs : List Bd
  said : List Int
@[reducible] def wdParts (w : Wd) : List D := [.int w.tick, .int w.seed, .tup (w.sh.map .int), .int w.c, .tup (w.bs.map bdD), .tup (w.said.map .int)]
structure WdOK (r : Gr) (ks : List Kd) (pl : Int) (w : Wd) : Prop where
  tick : 0 ≤ w.tick ∧ w.tick ≤ 1000000000
  seed : 1 ≤ w.seed ∧ w.seed ≤ 2147483646
  sh : w.sh.length = 8 ∧ w.sh.all smallB = true
  c : 0 ≤ w.c ∧ w.c ≤ 1010
  bs : BsOK r ks pl w.bs w.c
  bl : w.bs.length ≤ 7
  said : w.said.length ≤ 64 ∧ w.said.all smallB = true
theorem parts_spec {a : Addr} {h : Hand} {r : Gr} {ks : List Kd} {many pl : Int} (ha : M a = some (handMO h)) (hk : HandOK h) (hks : ∀ k ∈ ks, KdOK k) (hk0 : 0 < ks.length) (hk8 : ks.length ≤ 8) (hm : 0 ≤ many) (hm2 : many ≤ 7) (hp : 1 ≤ pl) (hp2 : pl ≤ 4)
    (k : ∀ w h', HandOK h' → WdOK r ks pl w → Q (.tup (wdParts w)) (M.set a (handMO h'))) : callH (wpF gg fs (n + 6)) F_law_parts [.loc a, r.d, .lst (ks.map kdD), .int pl, .int many] M Q X hq hx' := by
  rw [go_law_parts]
  walk_at "wp"
  refine bodies_spec ha hk hks hk0 hk8 hm (by omega) hp hp2 fun bs h1 hk1 hbs hbl => ?_
  walk_at "wp"
  refine smalls_run Mem.set_same hk1 (by decide) (fun _ => trivial) (fun d => rfl) fun sh h2 hsl hs hk2 => ?_
  walk_at "wp"
  refine tick_spec Mem.set_same hk2 fun t h3 t0 t1 hk3 => ?_
  walk_at "wp"
  refine seed_spec Mem.set_same hk3 fun s h4 s0 s1 hk4 => ?_
  walk_at "wp"
  refine count_spec Mem.set_same hk4 hbs fun c h5 hk5 c0 c1 hbs2 => ?_
  walk_at "wp"
  refine said_spec Mem.set_same hk5 fun sd h6 sd0 sd1 hk6 => ?_
  walk_at "wp"
  exact k ⟨t, s, sh, c, bs, sd⟩ h6 hk6 ⟨⟨t0, t1⟩, ⟨s0, s1⟩, ⟨by rw [hsl]; rfl, hs⟩, ⟨c0, c1⟩, hbs2, by simp only; omega, ⟨sd0, sd1⟩⟩
end
end S

set_option Elab.async false
set_option linter.all false
set_option maxRecDepth 100000
set_option maxHeartbeats 4000000
/-! PF: grounds, kinds, games, worlds are made. -/
namespace S
open Lw Wp
open PySem (Addr)
local macro_rules | `(tactic| walk_at "wp") => `(tactic| try simp -dsimp -implicitDefEqProofs only [↓Wp.u_var, ↓Wp.u_cst, ↓Wp.u_glb, ↓Wp.u_fld, ↓Wp.u_bin, ↓Wp.u_neg, ↓Wp.u_cmp, ↓Wp.u_chn, ↓Wp.u_isN, ↓Wp.u_notN, ↓Wp.u_isB, ↓Wp.u_and, ↓Wp.u_or, ↓Wp.u_not, ↓Wp.u_ite, ↓Wp.u_tup, ↓Wp.u_lst, ↓Wp.u_dct0, ↓Wp.u_dct1, ↓Wp.u_call, ↓Wp.u_make, ↓Wp.u_meth, ↓Wp.u_bi, ↓Wp.u_bm, ↓Wp.u_idx, ↓Wp.u_sl, ↓Wp.u_rev, ↓Wp.u_lc, ↓Wp.u_frz, ↓Wp.u_nil, ↓Wp.u_cons, ↓Wp.u_tval, ↓Wp.u_tand, ↓Wp.u_tor, ↓Wp.u_tnot, ↓Wp.u_tn, ↓Wp.u_ts, ↓Wp.u_on, ↓Wp.u_os, ↓Wp.u_of, ↓Wp.u_rng1, ↓Wp.u_rng2, ↓Wp.u_rng3, ↓Wp.u_enum, ↓Wp.u_zip, ↓Wp.u_tname, ↓Wp.u_tfld, ↓Wp.u_tidx, ↓Wp.u_ttup, ↓Wp.u_tnil, ↓Wp.u_tcons, ↓Wp.u_set, ↓Wp.u_par, ↓Wp.u_aug, ↓Wp.u_ife, ↓Wp.u_for, ↓Wp.u_whil, ↓Wp.u_ret, ↓Wp.u_retN, ↓Wp.u_raise, ↓Wp.u_exp, ↓Wp.u_pass, ↓Wp.u_brk, ↓Wp.u_cnt, ↓Wp.u_never, ↓Wp.u_try, ↓Wp.u_snil, ↓Wp.u_scons, ↓Wp.u_augf, ↓Wp.u_turnL, ↓Wp.u_turnF, ↓Wp.opt_un, ↓reduceIte, Wp.optH_some, Wp.optH_none, Wp.u_finF, Wp.u_finL, Wp.u_finD, Wp.vr, Wp.bO, Wp.iO, Wp.nonD, Wp.blD, Lw.wipeE, Wp.parE, Wp.deref_non, Wp.deref_bl, Wp.deref_int, Wp.deref_str, Wp.deref_tup, Wp.deref_lst, Wp.deref_ins, Wp.deref_dct, Wp.deref_scr, Wp.deref_loc, Lw.truthF, Lw.lenF, Lw.keyF, Lw.getK, Lw.putK, Lw.idxF, Wp.idx_str, Lw.slF, Lw.revF, Lw.addF, Lw.subF, Wp.mulF_ok, Wp.mulF_r, Wp.mulF_l, Wp.mulF_lst, Wp.mulF_tup, Wp.mulF_str, Lw.fdivF, Lw.modF, Lw.powF, Lw.binF, Lw.augF, Lw.eqF, Lw.flatD, Lw.eqFl, Lw.inF, Lw.intsF, Lw.cmpF, Lw.isiF, Lw.lookF, Lw.fldF, Lw.clsF, Lw.mthF, Lw.strsF, Lw.blsF, Lw.one, Lw.two, Lw.tupleF, Lw.listF, Lw.intF, L2.ixN, Lw.min2F, Lw.max2F, Lw.maxlF, Lw.minlF, Lw.sumF, Lw.strF, Lw.absF, Lw.lrngF, Lw.isisF, Lw.biF, Lw.splitF, Lw.upperF, Lw.getF, Lw.bmF, Lw.extF, Lw.popF, Lw.bmM, Lw.argF, Lw.lstAt, Lw.itemsF, Lw.gdOf, Lw.frzF, Lw.setF, Lw.putFld, Lw.putIdx, Lw.bmT, Lw.bmW, Lw.tgsFit, Wp.dropE_nil, Wp.dropE_cons, Lw.delL, Wp.atI_zero, Wp.atI_pos, Wp.atI_last, Lw.Mem.set_same, Lw.Mem.set_set, Lw.Mem.set_ne, Lw.Mem.del_set, Wp.rngL_length, Wp.join_signs, Wp.mem_swap, Wp.sizeLine_val, Wp.one_inj, List.cons_append, List.nil_append, Int.reduceAbs, Nat.reducePow, Nat.reduceMod, Nat.reduceDiv, Nat.reduceAdd, Nat.reduceMul, Nat.reduceSub, Nat.reduceLT, Nat.reduceLeDiff, Nat.reduceEqDiff, Int.reduceAdd, Int.reduceSub, Int.reduceMul, Int.reduceLT, Int.reduceLE, Int.reduceGT, Int.reduceGE, Int.reduceEq, Int.reduceNe, Int.reducePow, Int.reduceToNat, Int.reduceDiv, Int.reduceMod, reduceCtorEq, Int.cast_ofNat_Int, if_true, if_false, Bool.false_eq_true, Option.some.injEq, Option.map_some, Option.bind_some, Option.map_none, Option.bind_none, Option.join_some, Option.isSome_some, Option.isSome_none, List.length_range, List.map_cons, List.map_nil, List.length_cons, List.length_nil, List.length_map, List.set_cons_zero, List.set_cons_succ, List.mem_cons, List.not_mem_nil, List.all_cons, List.all_nil, List.any_cons, List.any_nil, Bool.and_eq_true, Bool.and_true, Bool.true_and, Bool.and_false, Bool.false_and, Bool.or_false, Bool.false_or, Bool.or_true, Bool.true_or, Bool.not_true, Bool.not_false, Bool.not_eq_true, Bool.not_eq_false', Bool.not_eq_true', decide_eq_true_eq, decide_eq_false_iff_not, decide_true, decide_false, and_true, true_and, and_false, false_and, or_true, true_or, or_false, false_or, not_true_eq_false, not_false_eq_true, eq_self, ite_self, ne_eq, Int.reduceNeg, List.cons_ne_nil, S.gc_MOST_SMALL, S.gc_LEAST_SMALL, S.gc_MOST_SIGNS, S.gc_FREE, S.gc_WALL, S.gc_MARKS, S.gc_CELL, S.gc_PRIME, S.gc_MOST_SPEED, S.gc_MANY_CELLS, S.gc_MOST_BODIES_worlds, S.gc_MOST_TICK, S.gc_MANY_SHARED, S.gc_MOST_SAID, S.gc_LINE_END, S.gc_LETTERS, S.gc_BLANK, S.gc_MOST_ROWS, S.gc_MOST_SIDE, S.gc_MOST_PULL, S.gc_MOST_PLAYERS, S.gc_MOST_KINDS, S.gc_MOST_BIRTHS, S.gm_Screen_show, S.gm_Screen_shown, S.gm_Screen_picture, S.gi_Ground, S.gi_Kind, S.gi_Game, S.gi_World, S.gi_Screen, S.gf_Ground, S.gf_Kind, S.gf_Game, S.gf_World, S.gf_Screen, S.gs_NoWorld_NoWorld, S.gcls, S.N_Ground, S.N_rows, S.N_wide, S.N_high, S.N_Kind, S.N_solid, S.N_pull, S.N_program, S.N_Game, S.N_players, S.N_ground, S.N_kinds, S.N_births, S.N_World, S.N_tick, S.N_seed, S.N_shared, S.N_count, S.N_bodies, S.N_said, S.N_Screen, S.N_played, S.N_drawing, S.N_times, S.N_NoWorld, S.N_show, S.N_shown, S.N_picture, S.N_Program, S.w_is_integer, S.w_is_within, S.w_is_sized, S.w_is_sized_non, S.allF_map, S.anyF_map, S.w_is_small, S.w_is_seed, S.w_is_speed, S.w_are_small, S.w_law_sign, S.w_law_spots, S.w_law_common])
local macro_rules | `(tactic| walk_at "wp*") => `(tactic| try simp -dsimp -implicitDefEqProofs only [↓Wp.u_var, ↓Wp.u_cst, ↓Wp.u_glb, ↓Wp.u_fld, ↓Wp.u_bin, ↓Wp.u_neg, ↓Wp.u_cmp, ↓Wp.u_chn, ↓Wp.u_isN, ↓Wp.u_notN, ↓Wp.u_isB, ↓Wp.u_and, ↓Wp.u_or, ↓Wp.u_not, ↓Wp.u_ite, ↓Wp.u_tup, ↓Wp.u_lst, ↓Wp.u_dct0, ↓Wp.u_dct1, ↓Wp.u_call, ↓Wp.u_make, ↓Wp.u_meth, ↓Wp.u_bi, ↓Wp.u_bm, ↓Wp.u_idx, ↓Wp.u_sl, ↓Wp.u_rev, ↓Wp.u_lc, ↓Wp.u_frz, ↓Wp.u_nil, ↓Wp.u_cons, ↓Wp.u_tval, ↓Wp.u_tand, ↓Wp.u_tor, ↓Wp.u_tnot, ↓Wp.u_tn, ↓Wp.u_ts, ↓Wp.u_on, ↓Wp.u_os, ↓Wp.u_of, ↓Wp.u_rng1, ↓Wp.u_rng2, ↓Wp.u_rng3, ↓Wp.u_enum, ↓Wp.u_zip, ↓Wp.u_tname, ↓Wp.u_tfld, ↓Wp.u_tidx, ↓Wp.u_ttup, ↓Wp.u_tnil, ↓Wp.u_tcons, ↓Wp.u_set, ↓Wp.u_par, ↓Wp.u_aug, ↓Wp.u_ife, ↓Wp.u_for, ↓Wp.u_whil, ↓Wp.u_ret, ↓Wp.u_retN, ↓Wp.u_raise, ↓Wp.u_exp, ↓Wp.u_pass, ↓Wp.u_brk, ↓Wp.u_cnt, ↓Wp.u_never, ↓Wp.u_try, ↓Wp.u_snil, ↓Wp.u_scons, ↓Wp.u_augf, ↓Wp.u_turnL, ↓Wp.u_turnF, ↓Wp.opt_un, ↓reduceIte, Wp.optH_some, Wp.optH_none, Wp.u_finF, Wp.u_finL, Wp.u_finD, Wp.vr, Wp.bO, Wp.iO, Wp.nonD, Wp.blD, Lw.wipeE, Wp.parE, Wp.deref_non, Wp.deref_bl, Wp.deref_int, Wp.deref_str, Wp.deref_tup, Wp.deref_lst, Wp.deref_ins, Wp.deref_dct, Wp.deref_scr, Wp.deref_loc, Lw.truthF, Lw.lenF, Lw.keyF, Lw.getK, Lw.putK, Lw.idxF, Wp.idx_str, Lw.slF, Lw.revF, Lw.addF, Lw.subF, Wp.mulF_ok, Wp.mulF_r, Wp.mulF_l, Wp.mulF_lst, Wp.mulF_tup, Wp.mulF_str, Lw.fdivF, Lw.modF, Lw.powF, Lw.binF, Lw.augF, Lw.eqF, Lw.flatD, Lw.eqFl, Lw.inF, Lw.intsF, Lw.cmpF, Lw.isiF, Lw.lookF, Lw.fldF, Lw.clsF, Lw.mthF, Lw.strsF, Lw.blsF, Lw.one, Lw.two, Lw.tupleF, Lw.listF, Lw.intF, L2.ixN, Lw.min2F, Lw.max2F, Lw.maxlF, Lw.minlF, Lw.sumF, Lw.strF, Lw.absF, Lw.lrngF, Lw.isisF, Lw.biF, Lw.splitF, Lw.upperF, Lw.getF, Lw.bmF, Lw.extF, Lw.popF, Lw.bmM, Lw.argF, Lw.lstAt, Lw.itemsF, Lw.gdOf, Lw.frzF, Lw.setF, Lw.putFld, Lw.putIdx, Lw.bmT, Lw.bmW, Lw.tgsFit, Wp.dropE_nil, Wp.dropE_cons, Lw.delL, Wp.atI_zero, Wp.atI_pos, Wp.atI_last, Lw.Mem.set_same, Lw.Mem.set_set, Lw.Mem.set_ne, Lw.Mem.del_set, Wp.rngL_length, Wp.join_signs, Wp.mem_swap, Wp.sizeLine_val, Wp.one_inj, List.cons_append, List.nil_append, Int.reduceAbs, Nat.reducePow, Nat.reduceMod, Nat.reduceDiv, Nat.reduceAdd, Nat.reduceMul, Nat.reduceSub, Nat.reduceLT, Nat.reduceLeDiff, Nat.reduceEqDiff, Int.reduceAdd, Int.reduceSub, Int.reduceMul, Int.reduceLT, Int.reduceLE, Int.reduceGT, Int.reduceGE, Int.reduceEq, Int.reduceNe, Int.reducePow, Int.reduceToNat, Int.reduceDiv, Int.reduceMod, reduceCtorEq, Int.cast_ofNat_Int, if_true, if_false, Bool.false_eq_true, Option.some.injEq, Option.map_some, Option.bind_some, Option.map_none, Option.bind_none, Option.join_some, Option.isSome_some, Option.isSome_none, List.length_range, List.map_cons, List.map_nil, List.length_cons, List.length_nil, List.length_map, List.set_cons_zero, List.set_cons_succ, List.mem_cons, List.not_mem_nil, List.all_cons, List.all_nil, List.any_cons, List.any_nil, Bool.and_eq_true, Bool.and_true, Bool.true_and, Bool.and_false, Bool.false_and, Bool.or_false, Bool.false_or, Bool.or_true, Bool.true_or, Bool.not_true, Bool.not_false, Bool.not_eq_true, Bool.not_eq_false', Bool.not_eq_true', decide_eq_true_eq, decide_eq_false_iff_not, decide_true, decide_false, and_true, true_and, and_false, false_and, or_true, true_or, or_false, false_or, not_true_eq_false, not_false_eq_true, eq_self, ite_self, ne_eq, Int.reduceNeg, List.cons_ne_nil, S.gc_MOST_SMALL, S.gc_LEAST_SMALL, S.gc_MOST_SIGNS, S.gc_FREE, S.gc_WALL, S.gc_MARKS, S.gc_CELL, S.gc_PRIME, S.gc_MOST_SPEED, S.gc_MANY_CELLS, S.gc_MOST_BODIES_worlds, S.gc_MOST_TICK, S.gc_MANY_SHARED, S.gc_MOST_SAID, S.gc_LINE_END, S.gc_LETTERS, S.gc_BLANK, S.gc_MOST_ROWS, S.gc_MOST_SIDE, S.gc_MOST_PULL, S.gc_MOST_PLAYERS, S.gc_MOST_KINDS, S.gc_MOST_BIRTHS, S.gm_Screen_show, S.gm_Screen_shown, S.gm_Screen_picture, S.gi_Ground, S.gi_Kind, S.gi_Game, S.gi_World, S.gi_Screen, S.gf_Ground, S.gf_Kind, S.gf_Game, S.gf_World, S.gf_Screen, S.gs_NoWorld_NoWorld, S.gcls, S.N_Ground, S.N_rows, S.N_wide, S.N_high, S.N_Kind, S.N_solid, S.N_pull, S.N_program, S.N_Game, S.N_players, S.N_ground, S.N_kinds, S.N_births, S.N_World, S.N_tick, S.N_seed, S.N_shared, S.N_count, S.N_bodies, S.N_said, S.N_Screen, S.N_played, S.N_drawing, S.N_times, S.N_NoWorld, S.N_show, S.N_shown, S.N_picture, S.N_Program, S.w_is_integer, S.w_is_within, S.w_is_sized, S.w_is_sized_non, S.allF_map, S.anyF_map, S.w_is_small, S.w_is_seed, S.w_is_speed, S.w_are_small, S.w_law_sign, S.w_law_spots, S.w_law_common, *])
@[reducible] def gndI (r : Gr) : D := .ins N_Ground [N_rows, N_wide, N_high] [r.d, .int (8 * r.W), .int (8 * r.rows.length)]
@[reducible] def kdI (k : Kd) : D := .ins N_Kind [N_wide, N_high, N_solid, N_pull, N_program] [.int k.w, .int k.h, .bl k.s, .int k.p, .non]
@[reducible] def gameI (r : Gr) (ks : List Kd) (pl : Int) : D := .ins N_Game [N_players, N_ground, N_kinds, N_births] [.int pl, gndI r, .tup (ks.map kdI), .tup []]
@[reducible] def wdL (ps : List D) : D := .ins N_World [N_tick, N_seed, N_shared, N_count, N_bodies, N_said] ps
section
variable {n : Nat} {M : Mem} {Q : DK1} {X : XK1} {hq : Hid Q} {hx hx' : Hid X}
theorem world_make {a b c d e f : D} (k : Q (wdL [a, b, c, d, e, f]) M) : makeH gg (wpF gg fs (n + 1)) N_World true [a, b, c, d, e, f] M Q X hq hx := by
  refine make_i gi_World fun l hl => ?_
  rw [go_World_init]
  walk_at "wp*"
theorem w_is_row {r : List Nat} (h1 : 1 ≤ r.length) (h2 : r.length ≤ 40) (h3 : ∀ c ∈ r, signOK c) : callH (wpF gg fs (n + 1)) F_is_row [.str r] M Q X hq hx = Q (.bl true) M := by
  have b : r.length ≤ 16777216 := by omega
  have b1 : (1 : Int) ≤ r.length := by omega
  have b2 : (r.length : Int) ≤ 40 := by omega
  rw [go_is_row]
  walk_at "wp*"
  rw [lcH_mapT (fun c => .bl true) trivial (by omega) fun c hc k => ?_]
  · walk_at "wp"
    simp only [List.all_eq_true.mpr fun _ _ => rfl]
  · have : c ∈ [46, 35, 48, 49, 50, 51, 52, 53, 54, 55, 56, 57] := by
      simp only [List.mem_cons, List.not_mem_nil, or_false]
      rcases h3 c hc with h | h | h <;> omega
    clear h3
    walk_at "wp*"
theorem ground_make {r : Gr} (k : Q (gndI r) M) : makeH gg (wpF gg fs (n + 2)) N_Ground true [r.d] M Q X hq hx := by
  obtain ⟨s0, h0, _, l0, e0⟩ := r.row (y := 0) (by omega) (by have := r.h; omega)
  have b0 : s0.length ≤ 16777216 := by have := r.w; omega
  have b1 : r.W ≤ 16777216 := by have := r.w; omega
  have b2 : (1 : Int) ≤ r.rows.length := by have := r.h; omega
  have b3 : (r.rows.length : Int) ≤ 30 := by have := r.h; omega
  clear h0
  refine make_i gi_Ground fun l hl => ?_
  rw [go_Ground_init]
  walk_at "wp*"
  rw [enumL_map]
  refine forH_anyB (fun _ => false) (fun e => ∃ o2 o3, e = [some (.loc l), some r.d, o2, o3]) False ⟨_, _, rfl⟩ trivial ?_ (fun q => by simp at q) (fun _ => ?_)
  · rintro p hp e kk ⟨o2, o3, rfl⟩ _ k2
    have hm := mem_zipIdx hp
    have hlen := r.ok.len _ hm
    have hw := r.w
    have c0 : p.1.length ≤ 16777216 := by omega
    have e1 := fun (Q : DK1) (X : XK1) (hq : Hid Q) (hx : Hid X) (M : Mem) => w_is_row (n := n) (M := M) (Q := Q) (X := X) (hq := hq) (hx := hx) (r := p.1) (by omega) (by omega) (r.ok.ok _ hm)
    have k2 := k2 rfl _ ⟨some (.int (p.2 : Nat)), some (.str p.1), rfl⟩
    clear hm hp k b2 b3 hw
    walk_at "wp*"
  · rintro e ⟨o2, o3, rfl⟩
    walk_at "wp*"
theorem w_law_program_of : callH (wpF gg fs (n + 1)) F_law_program_of [.non] M Q X hq hx = Q .non M := by
  rw [go_law_program_of]
  walk_at "wp*"
local macro_rules | `(tactic| walk_at "wp") => `(tactic| try simp -dsimp -implicitDefEqProofs only [↓Wp.u_var, ↓Wp.u_cst, ↓Wp.u_glb, ↓Wp.u_fld, ↓Wp.u_bin, ↓Wp.u_neg, ↓Wp.u_cmp, ↓Wp.u_chn, ↓Wp.u_isN, ↓Wp.u_notN, ↓Wp.u_isB, ↓Wp.u_and, ↓Wp.u_or, ↓Wp.u_not, ↓Wp.u_ite, ↓Wp.u_tup, ↓Wp.u_lst, ↓Wp.u_dct0, ↓Wp.u_dct1, ↓Wp.u_call, ↓Wp.u_make, ↓Wp.u_meth, ↓Wp.u_bi, ↓Wp.u_bm, ↓Wp.u_idx, ↓Wp.u_sl, ↓Wp.u_rev, ↓Wp.u_lc, ↓Wp.u_frz, ↓Wp.u_nil, ↓Wp.u_cons, ↓Wp.u_tval, ↓Wp.u_tand, ↓Wp.u_tor, ↓Wp.u_tnot, ↓Wp.u_tn, ↓Wp.u_ts, ↓Wp.u_on, ↓Wp.u_os, ↓Wp.u_of, ↓Wp.u_rng1, ↓Wp.u_rng2, ↓Wp.u_rng3, ↓Wp.u_enum, ↓Wp.u_zip, ↓Wp.u_tname, ↓Wp.u_tfld, ↓Wp.u_tidx, ↓Wp.u_ttup, ↓Wp.u_tnil, ↓Wp.u_tcons, ↓Wp.u_set, ↓Wp.u_par, ↓Wp.u_aug, ↓Wp.u_ife, ↓Wp.u_for, ↓Wp.u_whil, ↓Wp.u_ret, ↓Wp.u_retN, ↓Wp.u_raise, ↓Wp.u_exp, ↓Wp.u_pass, ↓Wp.u_brk, ↓Wp.u_cnt, ↓Wp.u_never, ↓Wp.u_try, ↓Wp.u_snil, ↓Wp.u_scons, ↓Wp.u_augf, ↓Wp.u_turnL, ↓Wp.u_turnF, ↓Wp.opt_un, ↓reduceIte, Wp.optH_some, Wp.optH_none, Wp.u_finF, Wp.u_finL, Wp.u_finD, Wp.vr, Wp.bO, Wp.iO, Wp.nonD, Wp.blD, Lw.wipeE, Wp.parE, Wp.deref_non, Wp.deref_bl, Wp.deref_int, Wp.deref_str, Wp.deref_tup, Wp.deref_lst, Wp.deref_ins, Wp.deref_dct, Wp.deref_scr, Wp.deref_loc, Lw.truthF, Lw.lenF, Lw.keyF, Lw.getK, Lw.putK, Lw.idxF, Wp.idx_str, Lw.slF, Lw.revF, Lw.addF, Lw.subF, Wp.mulF_ok, Wp.mulF_r, Wp.mulF_l, Wp.mulF_lst, Wp.mulF_tup, Wp.mulF_str, Lw.fdivF, Lw.modF, Lw.powF, Lw.binF, Lw.augF, Lw.eqF, Lw.flatD, Lw.eqFl, Lw.inF, Lw.intsF, Lw.cmpF, Lw.isiF, Lw.lookF, Lw.fldF, Lw.clsF, Lw.mthF, Lw.strsF, Lw.blsF, Lw.one, Lw.two, Lw.tupleF, Lw.listF, Lw.intF, L2.ixN, Lw.min2F, Lw.max2F, Lw.maxlF, Lw.minlF, Lw.sumF, Lw.strF, Lw.absF, Lw.lrngF, Lw.isisF, Lw.biF, Lw.splitF, Lw.upperF, Lw.getF, Lw.bmF, Lw.extF, Lw.popF, Lw.bmM, Lw.argF, Lw.lstAt, Lw.itemsF, Lw.gdOf, Lw.frzF, Lw.setF, Lw.putFld, Lw.putIdx, Lw.bmT, Lw.bmW, Lw.tgsFit, Wp.dropE_nil, Wp.dropE_cons, Lw.delL, Wp.atI_zero, Wp.atI_pos, Wp.atI_last, Lw.Mem.set_same, Lw.Mem.set_set, Lw.Mem.set_ne, Lw.Mem.del_set, Wp.rngL_length, Wp.join_signs, Wp.mem_swap, Wp.sizeLine_val, Wp.one_inj, List.cons_append, List.nil_append, Int.reduceAbs, Nat.reducePow, Nat.reduceMod, Nat.reduceDiv, Nat.reduceAdd, Nat.reduceMul, Nat.reduceSub, Nat.reduceLT, Nat.reduceLeDiff, Nat.reduceEqDiff, Int.reduceAdd, Int.reduceSub, Int.reduceMul, Int.reduceLT, Int.reduceLE, Int.reduceGT, Int.reduceGE, Int.reduceEq, Int.reduceNe, Int.reducePow, Int.reduceToNat, Int.reduceDiv, Int.reduceMod, reduceCtorEq, Int.cast_ofNat_Int, if_true, if_false, Bool.false_eq_true, Option.some.injEq, Option.map_some, Option.bind_some, Option.map_none, Option.bind_none, Option.join_some, Option.isSome_some, Option.isSome_none, List.length_range, List.map_cons, List.map_nil, List.length_cons, List.length_nil, List.length_map, List.set_cons_zero, List.set_cons_succ, List.mem_cons, List.not_mem_nil, List.all_cons, List.all_nil, List.any_cons, List.any_nil, Bool.and_eq_true, Bool.and_true, Bool.true_and, Bool.and_false, Bool.false_and, Bool.or_false, Bool.false_or, Bool.or_true, Bool.true_or, Bool.not_true, Bool.not_false, Bool.not_eq_true, Bool.not_eq_false', Bool.not_eq_true', decide_eq_true_eq, decide_eq_false_iff_not, decide_true, decide_false, and_true, true_and, and_false, false_and, or_true, true_or, or_false, false_or, not_true_eq_false, not_false_eq_true, eq_self, ite_self, ne_eq, Int.reduceNeg, List.cons_ne_nil, S.gc_MOST_SMALL, S.gc_LEAST_SMALL, S.gc_MOST_SIGNS, S.gc_FREE, S.gc_WALL, S.gc_MARKS, S.gc_CELL, S.gc_PRIME, S.gc_MOST_SPEED, S.gc_MANY_CELLS, S.gc_MOST_BODIES_worlds, S.gc_MOST_TICK, S.gc_MANY_SHARED, S.gc_MOST_SAID, S.gc_LINE_END, S.gc_LETTERS, S.gc_BLANK, S.gc_MOST_ROWS, S.gc_MOST_SIDE, S.gc_MOST_PULL, S.gc_MOST_PLAYERS, S.gc_MOST_KINDS, S.gc_MOST_BIRTHS, S.gm_Screen_show, S.gm_Screen_shown, S.gm_Screen_picture, S.gi_Ground, S.gi_Kind, S.gi_Game, S.gi_World, S.gi_Screen, S.gf_Ground, S.gf_Kind, S.gf_Game, S.gf_World, S.gf_Screen, S.gs_NoWorld_NoWorld, S.gcls, S.N_Ground, S.N_rows, S.N_wide, S.N_high, S.N_Kind, S.N_solid, S.N_pull, S.N_program, S.N_Game, S.N_players, S.N_ground, S.N_kinds, S.N_births, S.N_World, S.N_tick, S.N_seed, S.N_shared, S.N_count, S.N_bodies, S.N_said, S.N_Screen, S.N_played, S.N_drawing, S.N_times, S.N_NoWorld, S.N_show, S.N_shown, S.N_picture, S.N_Program, S.w_is_integer, S.w_is_within, S.w_is_sized, S.w_is_sized_non, S.allF_map, S.anyF_map, S.w_is_small, S.w_is_seed, S.w_is_speed, S.w_are_small, S.w_law_sign, S.w_law_spots, S.w_law_common, S.w_law_program_of])
local macro_rules | `(tactic| walk_at "wp*") => `(tactic| try simp -dsimp -implicitDefEqProofs only [↓Wp.u_var, ↓Wp.u_cst, ↓Wp.u_glb, ↓Wp.u_fld, ↓Wp.u_bin, ↓Wp.u_neg, ↓Wp.u_cmp, ↓Wp.u_chn, ↓Wp.u_isN, ↓Wp.u_notN, ↓Wp.u_isB, ↓Wp.u_and, ↓Wp.u_or, ↓Wp.u_not, ↓Wp.u_ite, ↓Wp.u_tup, ↓Wp.u_lst, ↓Wp.u_dct0, ↓Wp.u_dct1, ↓Wp.u_call, ↓Wp.u_make, ↓Wp.u_meth, ↓Wp.u_bi, ↓Wp.u_bm, ↓Wp.u_idx, ↓Wp.u_sl, ↓Wp.u_rev, ↓Wp.u_lc, ↓Wp.u_frz, ↓Wp.u_nil, ↓Wp.u_cons, ↓Wp.u_tval, ↓Wp.u_tand, ↓Wp.u_tor, ↓Wp.u_tnot, ↓Wp.u_tn, ↓Wp.u_ts, ↓Wp.u_on, ↓Wp.u_os, ↓Wp.u_of, ↓Wp.u_rng1, ↓Wp.u_rng2, ↓Wp.u_rng3, ↓Wp.u_enum, ↓Wp.u_zip, ↓Wp.u_tname, ↓Wp.u_tfld, ↓Wp.u_tidx, ↓Wp.u_ttup, ↓Wp.u_tnil, ↓Wp.u_tcons, ↓Wp.u_set, ↓Wp.u_par, ↓Wp.u_aug, ↓Wp.u_ife, ↓Wp.u_for, ↓Wp.u_whil, ↓Wp.u_ret, ↓Wp.u_retN, ↓Wp.u_raise, ↓Wp.u_exp, ↓Wp.u_pass, ↓Wp.u_brk, ↓Wp.u_cnt, ↓Wp.u_never, ↓Wp.u_try, ↓Wp.u_snil, ↓Wp.u_scons, ↓Wp.u_augf, ↓Wp.u_turnL, ↓Wp.u_turnF, ↓Wp.opt_un, ↓reduceIte, Wp.optH_some, Wp.optH_none, Wp.u_finF, Wp.u_finL, Wp.u_finD, Wp.vr, Wp.bO, Wp.iO, Wp.nonD, Wp.blD, Lw.wipeE, Wp.parE, Wp.deref_non, Wp.deref_bl, Wp.deref_int, Wp.deref_str, Wp.deref_tup, Wp.deref_lst, Wp.deref_ins, Wp.deref_dct, Wp.deref_scr, Wp.deref_loc, Lw.truthF, Lw.lenF, Lw.keyF, Lw.getK, Lw.putK, Lw.idxF, Wp.idx_str, Lw.slF, Lw.revF, Lw.addF, Lw.subF, Wp.mulF_ok, Wp.mulF_r, Wp.mulF_l, Wp.mulF_lst, Wp.mulF_tup, Wp.mulF_str, Lw.fdivF, Lw.modF, Lw.powF, Lw.binF, Lw.augF, Lw.eqF, Lw.flatD, Lw.eqFl, Lw.inF, Lw.intsF, Lw.cmpF, Lw.isiF, Lw.lookF, Lw.fldF, Lw.clsF, Lw.mthF, Lw.strsF, Lw.blsF, Lw.one, Lw.two, Lw.tupleF, Lw.listF, Lw.intF, L2.ixN, Lw.min2F, Lw.max2F, Lw.maxlF, Lw.minlF, Lw.sumF, Lw.strF, Lw.absF, Lw.lrngF, Lw.isisF, Lw.biF, Lw.splitF, Lw.upperF, Lw.getF, Lw.bmF, Lw.extF, Lw.popF, Lw.bmM, Lw.argF, Lw.lstAt, Lw.itemsF, Lw.gdOf, Lw.frzF, Lw.setF, Lw.putFld, Lw.putIdx, Lw.bmT, Lw.bmW, Lw.tgsFit, Wp.dropE_nil, Wp.dropE_cons, Lw.delL, Wp.atI_zero, Wp.atI_pos, Wp.atI_last, Lw.Mem.set_same, Lw.Mem.set_set, Lw.Mem.set_ne, Lw.Mem.del_set, Wp.rngL_length, Wp.join_signs, Wp.mem_swap, Wp.sizeLine_val, Wp.one_inj, List.cons_append, List.nil_append, Int.reduceAbs, Nat.reducePow, Nat.reduceMod, Nat.reduceDiv, Nat.reduceAdd, Nat.reduceMul, Nat.reduceSub, Nat.reduceLT, Nat.reduceLeDiff, Nat.reduceEqDiff, Int.reduceAdd, Int.reduceSub, Int.reduceMul, Int.reduceLT, Int.reduceLE, Int.reduceGT, Int.reduceGE, Int.reduceEq, Int.reduceNe, Int.reducePow, Int.reduceToNat, Int.reduceDiv, Int.reduceMod, reduceCtorEq, Int.cast_ofNat_Int, if_true, if_false, Bool.false_eq_true, Option.some.injEq, Option.map_some, Option.bind_some, Option.map_none, Option.bind_none, Option.join_some, Option.isSome_some, Option.isSome_none, List.length_range, List.map_cons, List.map_nil, List.length_cons, List.length_nil, List.length_map, List.set_cons_zero, List.set_cons_succ, List.mem_cons, List.not_mem_nil, List.all_cons, List.all_nil, List.any_cons, List.any_nil, Bool.and_eq_true, Bool.and_true, Bool.true_and, Bool.and_false, Bool.false_and, Bool.or_false, Bool.false_or, Bool.or_true, Bool.true_or, Bool.not_true, Bool.not_false, Bool.not_eq_true, Bool.not_eq_false', Bool.not_eq_true', decide_eq_true_eq, decide_eq_false_iff_not, decide_true, decide_false, and_true, true_and, and_false, false_and, or_true, true_or, or_false, false_or, not_true_eq_false, not_false_eq_true, eq_self, ite_self, ne_eq, Int.reduceNeg, List.cons_ne_nil, S.gc_MOST_SMALL, S.gc_LEAST_SMALL, S.gc_MOST_SIGNS, S.gc_FREE, S.gc_WALL, S.gc_MARKS, S.gc_CELL, S.gc_PRIME, S.gc_MOST_SPEED, S.gc_MANY_CELLS, S.gc_MOST_BODIES_worlds, S.gc_MOST_TICK, S.gc_MANY_SHARED, S.gc_MOST_SAID, S.gc_LINE_END, S.gc_LETTERS, S.gc_BLANK, S.gc_MOST_ROWS, S.gc_MOST_SIDE, S.gc_MOST_PULL, S.gc_MOST_PLAYERS, S.gc_MOST_KINDS, S.gc_MOST_BIRTHS, S.gm_Screen_show, S.gm_Screen_shown, S.gm_Screen_picture, S.gi_Ground, S.gi_Kind, S.gi_Game, S.gi_World, S.gi_Screen, S.gf_Ground, S.gf_Kind, S.gf_Game, S.gf_World, S.gf_Screen, S.gs_NoWorld_NoWorld, S.gcls, S.N_Ground, S.N_rows, S.N_wide, S.N_high, S.N_Kind, S.N_solid, S.N_pull, S.N_program, S.N_Game, S.N_players, S.N_ground, S.N_kinds, S.N_births, S.N_World, S.N_tick, S.N_seed, S.N_shared, S.N_count, S.N_bodies, S.N_said, S.N_Screen, S.N_played, S.N_drawing, S.N_times, S.N_NoWorld, S.N_show, S.N_shown, S.N_picture, S.N_Program, S.w_is_integer, S.w_is_within, S.w_is_sized, S.w_is_sized_non, S.allF_map, S.anyF_map, S.w_is_small, S.w_is_seed, S.w_is_speed, S.w_are_small, S.w_law_sign, S.w_law_spots, S.w_law_common, S.w_law_program_of, *])
theorem kind_of_spec {kd : Kd} (ok : KdOK kd) (k : Q (kdI kd) M) : callH (wpF gg fs (n + 4)) F_law_kind_of [kdD kd] M Q X hq hx := by
  obtain ⟨⟨w1, w2⟩, ⟨h1, h2⟩, ⟨p1, p2⟩⟩ := ok
  rw [go_law_kind_of]
  walk_at "wp*"
  refine make_i gi_Kind fun l hl => ?_
  rw [go_Kind_init]
  walk_at "wp*"
theorem game_make {r : Gr} {ks : List Kd} {pl : Int} (hk0 : 0 < ks.length) (hk8 : ks.length ≤ 8) (hp : 1 ≤ pl) (hp2 : pl ≤ 4) (k : Q (gameI r ks pl) M) : makeH gg (wpF gg fs (n + 3)) N_Game true [.int pl, gndI r, .tup (ks.map kdI), .tup []] M Q X hq hx := by
  have b1 : (1 : Int) ≤ ks.length := by omega
  have b2 : (ks.length : Int) ≤ 8 := by omega
  refine make_i gi_Game fun l hl => ?_
  rw [go_Game_init]
  walk_at "wp*"
  rw [lcH_mapT (fun c => .bl true) trivial (by omega) fun kd hkd k => ?_]
  · walk_at "wp"
    simp only [List.all_eq_true.mpr fun _ _ => rfl]
    walk_at "wp"
    refine new_i fun f hf => ?_
    obtain ⟨n1, n2, hf'⟩ := new_ne hf
    walk_at "wp*"
    refine forH_inv (fun rest e m => rest = [] ∧ e = [some (.loc l), some (.int pl), some (gndI r), some (.tup (ks.map kdI)), some (.tup []), some (.loc f), none, none, none] ∧ m = (M.set l (.ins N_Game [] [])).set f (.lst [])) ⟨rfl, rfl, rfl⟩ ?_ ?_
    · rintro d rest e m kk ⟨h, _⟩
      cases h
    · rintro e m ⟨_, rfl, rfl⟩
      refine ⟨trivial, ?_⟩
      walk_at "wp*"
  · walk_at "wp"
theorem game_of_spec {r : Gr} {ks : List Kd} {pl : Int} (hks : ∀ k ∈ ks, KdOK k) (hk0 : 0 < ks.length) (hk8 : ks.length ≤ 8) (hp : 1 ≤ pl) (hp2 : pl ≤ 4) (k : Q (gameI r ks pl) M) : callH (wpF gg fs (n + 5)) F_law_game_of [.int pl, r.d, .lst (ks.map kdD), .lst []] M Q X hq hx := by
  rw [go_law_game_of]
  walk_at "wp"
  refine ground_make ?_
  walk_at "wp"
  refine lcH_B kdI trivial (by omega) (fun kd hkd kk h => ?_) ?_
  · walk_at "wp"
    refine kind_of_spec (hks kd hkd) ?_
    walk_at "wp*"
  · walk_at "wp"
    refine game_make hk0 hk8 hp hp2 ?_
    walk_at "wp*"
end
end S

set_option Elab.async false
set_option linter.all false
set_option maxRecDepth 100000
set_option maxHeartbeats 4000000
/-! PG: what is a world of a game. -/
namespace S
open Lw Wp
open PySem (Addr)
theorem cut14 {a b c d : D} {r : List D} : cutA (a :: b :: c :: d :: r) (some 1) (some 4) = [b, c, d] := by
  simp [cutA, HT.sIx, Nat.min_def]
theorem cut_3 {a b c : D} {r : List D} : cutA (a :: b :: c :: r) none (some 3) = [a, b, c] := by
  simp [cutA, HT.sIx, Nat.min_def]
theorem cut_4 {a b c d : D} {r : List D} : cutA (a :: b :: c :: d :: r) none (some 4) = [a, b, c, d] := by
  simp [cutA, HT.sIx, Nat.min_def]
theorem cut_7 {a b c d e f g : D} {r : List D} : cutA (a :: b :: c :: d :: e :: f :: g :: r) none (some 7) = [a, b, c, d, e, f, g] := by
  simp [cutA, HT.sIx, Nat.min_def]
theorem cut4_ {a b c d : D} {r : List D} : cutA (a :: b :: c :: d :: r) (some 4) none = r := by
  simp [cutA, HT.sIx, Nat.min_def]
theorem cut1_ {xs : List D} : cutA xs (some 1) none = xs.tail := by
  cases xs <;> simp [cutA, HT.sIx, Nat.min_def]
theorem cut_n {xs : List D} {k : Nat} : cutA xs none (some (k : Int)) = xs.take k := by
  have h : ¬ (k : Int) < 0 := by omega
  simp only [cutA, HT.sIx, h, if_false, Nat.min_def, Int.toNat_natCast, List.drop_zero, Nat.sub_zero]
  split
  · rfl
  · rw [List.take_of_length_le (by omega), List.take_of_length_le (by omega)]
local macro_rules | `(tactic| walk_at "wp") => `(tactic| try simp -dsimp -implicitDefEqProofs only [↓Wp.u_var, ↓Wp.u_cst, ↓Wp.u_glb, ↓Wp.u_fld, ↓Wp.u_bin, ↓Wp.u_neg, ↓Wp.u_cmp, ↓Wp.u_chn, ↓Wp.u_isN, ↓Wp.u_notN, ↓Wp.u_isB, ↓Wp.u_and, ↓Wp.u_or, ↓Wp.u_not, ↓Wp.u_ite, ↓Wp.u_tup, ↓Wp.u_lst, ↓Wp.u_dct0, ↓Wp.u_dct1, ↓Wp.u_call, ↓Wp.u_make, ↓Wp.u_meth, ↓Wp.u_bi, ↓Wp.u_bm, ↓Wp.u_idx, ↓Wp.u_sl, ↓Wp.u_rev, ↓Wp.u_lc, ↓Wp.u_frz, ↓Wp.u_nil, ↓Wp.u_cons, ↓Wp.u_tval, ↓Wp.u_tand, ↓Wp.u_tor, ↓Wp.u_tnot, ↓Wp.u_tn, ↓Wp.u_ts, ↓Wp.u_on, ↓Wp.u_os, ↓Wp.u_of, ↓Wp.u_rng1, ↓Wp.u_rng2, ↓Wp.u_rng3, ↓Wp.u_enum, ↓Wp.u_zip, ↓Wp.u_tname, ↓Wp.u_tfld, ↓Wp.u_tidx, ↓Wp.u_ttup, ↓Wp.u_tnil, ↓Wp.u_tcons, ↓Wp.u_set, ↓Wp.u_par, ↓Wp.u_aug, ↓Wp.u_ife, ↓Wp.u_for, ↓Wp.u_whil, ↓Wp.u_ret, ↓Wp.u_retN, ↓Wp.u_raise, ↓Wp.u_exp, ↓Wp.u_pass, ↓Wp.u_brk, ↓Wp.u_cnt, ↓Wp.u_never, ↓Wp.u_try, ↓Wp.u_snil, ↓Wp.u_scons, ↓Wp.u_augf, ↓Wp.u_turnL, ↓Wp.u_turnF, ↓Wp.opt_un, ↓reduceIte, Wp.optH_some, Wp.optH_none, Wp.u_finF, Wp.u_finL, Wp.u_finD, Wp.vr, Wp.bO, Wp.iO, Wp.nonD, Wp.blD, Lw.wipeE, Wp.parE, Wp.deref_non, Wp.deref_bl, Wp.deref_int, Wp.deref_str, Wp.deref_tup, Wp.deref_lst, Wp.deref_ins, Wp.deref_dct, Wp.deref_scr, Wp.deref_loc, Lw.truthF, Lw.lenF, Lw.keyF, Lw.getK, Lw.putK, Lw.idxF, Wp.idx_str, Lw.slF, Lw.revF, Lw.addF, Lw.subF, Wp.mulF_ok, Wp.mulF_r, Wp.mulF_l, Wp.mulF_lst, Wp.mulF_tup, Wp.mulF_str, Lw.fdivF, Lw.modF, Lw.powF, Lw.binF, Lw.augF, Lw.eqF, Lw.flatD, Lw.eqFl, Lw.inF, Lw.intsF, Lw.cmpF, Lw.isiF, Lw.lookF, Lw.fldF, Lw.clsF, Lw.mthF, Lw.strsF, Lw.blsF, Lw.one, Lw.two, Lw.tupleF, Lw.listF, Lw.intF, L2.ixN, Lw.min2F, Lw.max2F, Lw.maxlF, Lw.minlF, Lw.sumF, Lw.strF, Lw.absF, Lw.lrngF, Lw.isisF, Lw.biF, Lw.splitF, Lw.upperF, Lw.getF, Lw.bmF, Lw.extF, Lw.popF, Lw.bmM, Lw.argF, Lw.lstAt, Lw.itemsF, Lw.gdOf, Lw.frzF, Lw.setF, Lw.putFld, Lw.putIdx, Lw.bmT, Lw.bmW, Lw.tgsFit, Wp.dropE_nil, Wp.dropE_cons, Lw.delL, Wp.atI_zero, Wp.atI_pos, Wp.atI_last, Lw.Mem.set_same, Lw.Mem.set_set, Lw.Mem.set_ne, Lw.Mem.del_set, Wp.rngL_length, Wp.join_signs, Wp.mem_swap, Wp.sizeLine_val, Wp.one_inj, List.cons_append, List.nil_append, Int.reduceAbs, Nat.reducePow, Nat.reduceMod, Nat.reduceDiv, Nat.reduceAdd, Nat.reduceMul, Nat.reduceSub, Nat.reduceLT, Nat.reduceLeDiff, Nat.reduceEqDiff, Int.reduceAdd, Int.reduceSub, Int.reduceMul, Int.reduceLT, Int.reduceLE, Int.reduceGT, Int.reduceGE, Int.reduceEq, Int.reduceNe, Int.reducePow, Int.reduceToNat, Int.reduceDiv, Int.reduceMod, reduceCtorEq, Int.cast_ofNat_Int, if_true, if_false, Bool.false_eq_true, Option.some.injEq, Option.map_some, Option.bind_some, Option.map_none, Option.bind_none, Option.join_some, Option.isSome_some, Option.isSome_none, List.length_range, List.map_cons, List.map_nil, List.length_cons, List.length_nil, List.length_map, List.set_cons_zero, List.set_cons_succ, List.mem_cons, List.not_mem_nil, List.all_cons, List.all_nil, List.any_cons, List.any_nil, Bool.and_eq_true, Bool.and_true, Bool.true_and, Bool.and_false, Bool.false_and, Bool.or_false, Bool.false_or, Bool.or_true, Bool.true_or, Bool.not_true, Bool.not_false, Bool.not_eq_true, Bool.not_eq_false', Bool.not_eq_true', decide_eq_true_eq, decide_eq_false_iff_not, decide_true, decide_false, and_true, true_and, and_false, false_and, or_true, true_or, or_false, false_or, not_true_eq_false, not_false_eq_true, eq_self, ite_self, ne_eq, Int.reduceNeg, List.cons_ne_nil, S.gc_MOST_SMALL, S.gc_LEAST_SMALL, S.gc_MOST_SIGNS, S.gc_FREE, S.gc_WALL, S.gc_MARKS, S.gc_CELL, S.gc_PRIME, S.gc_MOST_SPEED, S.gc_MANY_CELLS, S.gc_MOST_BODIES_worlds, S.gc_MOST_TICK, S.gc_MANY_SHARED, S.gc_MOST_SAID, S.gc_LINE_END, S.gc_LETTERS, S.gc_BLANK, S.gc_MOST_ROWS, S.gc_MOST_SIDE, S.gc_MOST_PULL, S.gc_MOST_PLAYERS, S.gc_MOST_KINDS, S.gc_MOST_BIRTHS, S.gm_Screen_show, S.gm_Screen_shown, S.gm_Screen_picture, S.gi_Ground, S.gi_Kind, S.gi_Game, S.gi_World, S.gi_Screen, S.gf_Ground, S.gf_Kind, S.gf_Game, S.gf_World, S.gf_Screen, S.gs_NoWorld_NoWorld, S.gcls, S.N_Ground, S.N_rows, S.N_wide, S.N_high, S.N_Kind, S.N_solid, S.N_pull, S.N_program, S.N_Game, S.N_players, S.N_ground, S.N_kinds, S.N_births, S.N_World, S.N_tick, S.N_seed, S.N_shared, S.N_count, S.N_bodies, S.N_said, S.N_Screen, S.N_played, S.N_drawing, S.N_times, S.N_NoWorld, S.N_show, S.N_shown, S.N_picture, S.N_Program, S.w_is_integer, S.w_is_within, S.w_is_sized, S.w_is_sized_non, S.allF_map, S.anyF_map, S.w_is_small, S.w_is_seed, S.w_is_speed, S.w_are_small, S.w_law_sign, S.w_law_spots, S.w_law_common, S.w_law_program_of, S.cut14, S.cut_3, S.cut_4, S.cut_7, S.cut4_, S.cut1_, S.cut_n])
local macro_rules | `(tactic| walk_at "wp*") => `(tactic| try simp -dsimp -implicitDefEqProofs only [↓Wp.u_var, ↓Wp.u_cst, ↓Wp.u_glb, ↓Wp.u_fld, ↓Wp.u_bin, ↓Wp.u_neg, ↓Wp.u_cmp, ↓Wp.u_chn, ↓Wp.u_isN, ↓Wp.u_notN, ↓Wp.u_isB, ↓Wp.u_and, ↓Wp.u_or, ↓Wp.u_not, ↓Wp.u_ite, ↓Wp.u_tup, ↓Wp.u_lst, ↓Wp.u_dct0, ↓Wp.u_dct1, ↓Wp.u_call, ↓Wp.u_make, ↓Wp.u_meth, ↓Wp.u_bi, ↓Wp.u_bm, ↓Wp.u_idx, ↓Wp.u_sl, ↓Wp.u_rev, ↓Wp.u_lc, ↓Wp.u_frz, ↓Wp.u_nil, ↓Wp.u_cons, ↓Wp.u_tval, ↓Wp.u_tand, ↓Wp.u_tor, ↓Wp.u_tnot, ↓Wp.u_tn, ↓Wp.u_ts, ↓Wp.u_on, ↓Wp.u_os, ↓Wp.u_of, ↓Wp.u_rng1, ↓Wp.u_rng2, ↓Wp.u_rng3, ↓Wp.u_enum, ↓Wp.u_zip, ↓Wp.u_tname, ↓Wp.u_tfld, ↓Wp.u_tidx, ↓Wp.u_ttup, ↓Wp.u_tnil, ↓Wp.u_tcons, ↓Wp.u_set, ↓Wp.u_par, ↓Wp.u_aug, ↓Wp.u_ife, ↓Wp.u_for, ↓Wp.u_whil, ↓Wp.u_ret, ↓Wp.u_retN, ↓Wp.u_raise, ↓Wp.u_exp, ↓Wp.u_pass, ↓Wp.u_brk, ↓Wp.u_cnt, ↓Wp.u_never, ↓Wp.u_try, ↓Wp.u_snil, ↓Wp.u_scons, ↓Wp.u_augf, ↓Wp.u_turnL, ↓Wp.u_turnF, ↓Wp.opt_un, ↓reduceIte, Wp.optH_some, Wp.optH_none, Wp.u_finF, Wp.u_finL, Wp.u_finD, Wp.vr, Wp.bO, Wp.iO, Wp.nonD, Wp.blD, Lw.wipeE, Wp.parE, Wp.deref_non, Wp.deref_bl, Wp.deref_int, Wp.deref_str, Wp.deref_tup, Wp.deref_lst, Wp.deref_ins, Wp.deref_dct, Wp.deref_scr, Wp.deref_loc, Lw.truthF, Lw.lenF, Lw.keyF, Lw.getK, Lw.putK, Lw.idxF, Wp.idx_str, Lw.slF, Lw.revF, Lw.addF, Lw.subF, Wp.mulF_ok, Wp.mulF_r, Wp.mulF_l, Wp.mulF_lst, Wp.mulF_tup, Wp.mulF_str, Lw.fdivF, Lw.modF, Lw.powF, Lw.binF, Lw.augF, Lw.eqF, Lw.flatD, Lw.eqFl, Lw.inF, Lw.intsF, Lw.cmpF, Lw.isiF, Lw.lookF, Lw.fldF, Lw.clsF, Lw.mthF, Lw.strsF, Lw.blsF, Lw.one, Lw.two, Lw.tupleF, Lw.listF, Lw.intF, L2.ixN, Lw.min2F, Lw.max2F, Lw.maxlF, Lw.minlF, Lw.sumF, Lw.strF, Lw.absF, Lw.lrngF, Lw.isisF, Lw.biF, Lw.splitF, Lw.upperF, Lw.getF, Lw.bmF, Lw.extF, Lw.popF, Lw.bmM, Lw.argF, Lw.lstAt, Lw.itemsF, Lw.gdOf, Lw.frzF, Lw.setF, Lw.putFld, Lw.putIdx, Lw.bmT, Lw.bmW, Lw.tgsFit, Wp.dropE_nil, Wp.dropE_cons, Lw.delL, Wp.atI_zero, Wp.atI_pos, Wp.atI_last, Lw.Mem.set_same, Lw.Mem.set_set, Lw.Mem.set_ne, Lw.Mem.del_set, Wp.rngL_length, Wp.join_signs, Wp.mem_swap, Wp.sizeLine_val, Wp.one_inj, List.cons_append, List.nil_append, Int.reduceAbs, Nat.reducePow, Nat.reduceMod, Nat.reduceDiv, Nat.reduceAdd, Nat.reduceMul, Nat.reduceSub, Nat.reduceLT, Nat.reduceLeDiff, Nat.reduceEqDiff, Int.reduceAdd, Int.reduceSub, Int.reduceMul, Int.reduceLT, Int.reduceLE, Int.reduceGT, Int.reduceGE, Int.reduceEq, Int.reduceNe, Int.reducePow, Int.reduceToNat, Int.reduceDiv, Int.reduceMod, reduceCtorEq, Int.cast_ofNat_Int, if_true, if_false, Bool.false_eq_true, Option.some.injEq, Option.map_some, Option.bind_some, Option.map_none, Option.bind_none, Option.join_some, Option.isSome_some, Option.isSome_none, List.length_range, List.map_cons, List.map_nil, List.length_cons, List.length_nil, List.length_map, List.set_cons_zero, List.set_cons_succ, List.mem_cons, List.not_mem_nil, List.all_cons, List.all_nil, List.any_cons, List.any_nil, Bool.and_eq_true, Bool.and_true, Bool.true_and, Bool.and_false, Bool.false_and, Bool.or_false, Bool.false_or, Bool.or_true, Bool.true_or, Bool.not_true, Bool.not_false, Bool.not_eq_true, Bool.not_eq_false', Bool.not_eq_true', decide_eq_true_eq, decide_eq_false_iff_not, decide_true, decide_false, and_true, true_and, and_false, false_and, or_true, true_or, or_false, false_or, not_true_eq_false, not_false_eq_true, eq_self, ite_self, ne_eq, Int.reduceNeg, List.cons_ne_nil, S.gc_MOST_SMALL, S.gc_LEAST_SMALL, S.gc_MOST_SIGNS, S.gc_FREE, S.gc_WALL, S.gc_MARKS, S.gc_CELL, S.gc_PRIME, S.gc_MOST_SPEED, S.gc_MANY_CELLS, S.gc_MOST_BODIES_worlds, S.gc_MOST_TICK, S.gc_MANY_SHARED, S.gc_MOST_SAID, S.gc_LINE_END, S.gc_LETTERS, S.gc_BLANK, S.gc_MOST_ROWS, S.gc_MOST_SIDE, S.gc_MOST_PULL, S.gc_MOST_PLAYERS, S.gc_MOST_KINDS, S.gc_MOST_BIRTHS, S.gm_Screen_show, S.gm_Screen_shown, S.gm_Screen_picture, S.gi_Ground, S.gi_Kind, S.gi_Game, S.gi_World, S.gi_Screen, S.gf_Ground, S.gf_Kind, S.gf_Game, S.gf_World, S.gf_Screen, S.gs_NoWorld_NoWorld, S.gcls, S.N_Ground, S.N_rows, S.N_wide, S.N_high, S.N_Kind, S.N_solid, S.N_pull, S.N_program, S.N_Game, S.N_players, S.N_ground, S.N_kinds, S.N_births, S.N_World, S.N_tick, S.N_seed, S.N_shared, S.N_count, S.N_bodies, S.N_said, S.N_Screen, S.N_played, S.N_drawing, S.N_times, S.N_NoWorld, S.N_show, S.N_shown, S.N_picture, S.N_Program, S.w_is_integer, S.w_is_within, S.w_is_sized, S.w_is_sized_non, S.allF_map, S.anyF_map, S.w_is_small, S.w_is_seed, S.w_is_speed, S.w_are_small, S.w_law_sign, S.w_law_spots, S.w_law_common, S.w_law_program_of, S.cut14, S.cut_3, S.cut_4, S.cut_7, S.cut4_, S.cut1_, S.cut_n, *])
/-! the cells of a body -/
theorem mem_spots {b l s : Int} : s ∈ spotsF b l ↔ (∃ k : Nat, k < ((l + 7) / 8).toNat ∧ s = b + 8 * k) ∨ s = b + l - 1 := by
  simp only [spotsF, List.mem_append, List.mem_map, List.mem_range, List.mem_singleton, Int.sub_zero, Int.zero_add]
  constructor
  · rintro (⟨k, h, rfl⟩ | h)
    · exact .inl ⟨k, h, rfl⟩
    · exact .inr h
  · rintro (⟨k, h, rfl⟩ | h)
    · exact .inl ⟨k, h, rfl⟩
    · exact .inr h
theorem spot_of {b l c : Int} (h1 : 1 ≤ l) (h2 : b / 8 ≤ c) (h3 : c ≤ (b + l - 1) / 8) : ∃ s, s ∈ spotsF b l ∧ s / 8 = c := by
  by_cases h : c = (b + l - 1) / 8
  · exact ⟨b + l - 1, mem_spots.mpr (.inr rfl), h.symm⟩
  · refine ⟨b + 8 * ((c - b / 8).toNat : Int), mem_spots.mpr (.inl ⟨_, ?_, rfl⟩), ?_⟩
    · omega
    · omega
structure Cells (r : Gr) (x y w h : Int) : Prop where
  cx : 0 ≤ x ∧ x + w ≤ 8 * r.W
  cy : 0 ≤ y ∧ y + h ≤ 8 * r.rows.length
  c : ∀ rr cc : Int, y / 8 ≤ rr → rr ≤ (y + h - 1) / 8 → x / 8 ≤ cc → cc ≤ (x + w - 1) / 8 → r.at rr.toNat cc.toNat ≠ 35
theorem cells_of {r : Gr} {x y w h : Int} (hw : 1 ≤ w) (hh : 1 ≤ h) (ho : openF r x y w h = true) : Cells r x y w h := by
  have key : ∀ d ∈ spotsF y h, ∀ a ∈ spotsF x w, signF r a d ≠ 35 := by
    intro d hd a ha e
    have := List.all_eq_true.mp (List.all_eq_true.mp ho d hd) a ha
    simp [e] at this
  have inn : ∀ d ∈ spotsF y h, ∀ a ∈ spotsF x w, ¬ (a < 0 ∨ d < 0 ∨ 8 * (r.W : Int) ≤ a ∨ 8 * (r.rows.length : Int) ≤ d) ∧ r.at (d / 8).toNat (a / 8).toNat ≠ 35 := by
    intro d hd a ha
    have := key d hd a ha
    unfold signF at this
    split at this
    · exact absurd rfl this
    · rename_i q
      exact ⟨q, this⟩
  have y0 : y ∈ spotsF y h := mem_spots.mpr (.inl ⟨0, by omega, by simp⟩)
  have x0 : x ∈ spotsF x w := mem_spots.mpr (.inl ⟨0, by omega, by simp⟩)
  have y1 : y + h - 1 ∈ spotsF y h := mem_spots.mpr (.inr rfl)
  have x1 : x + w - 1 ∈ spotsF x w := mem_spots.mpr (.inr rfl)
  have a := (inn _ y0 _ x0).1
  have b := (inn _ y1 _ x1).1
  refine ⟨⟨by omega, by omega⟩, ⟨by omega, by omega⟩, fun rr cc h1 h2 h3 h4 => ?_⟩
  obtain ⟨d, hd, rfl⟩ := spot_of hh h1 h2
  obtain ⟨a, ha, rfl⟩ := spot_of hw h3 h4
  exact (inn d hd a ha).2
section
variable {n : Nat} {M : Mem} {Q : DK1} {X : XK1} {hq : Hid Q} {hx hx' : Hid X}
theorem w_spanned {b l : Int} (h1 : 0 ≤ b) (h2 : b ≤ 1000) (h3 : 1 ≤ l) (h4 : l ≤ 32) : callH (wpF gg fs (n + 1)) F_spanned [.int b, .int l] M Q X hq hx = Q (.lst (rngL (b / 8) ((b + l - 1) / 8 + 1))) M := by
  have h : rngOk (b / 8) ((b + l - 1) / 8 + 1) := ⟨by omega, by omega, by omega, by omega, by omega⟩
  rw [go_spanned]
  walk_at "wp*"
theorem mem_rngL {a b : Int} {k : Nat} (h : k ∈ List.range (b - a).toNat) : a ≤ a + (k : Int) ∧ a + (k : Int) < b := by
  have := List.mem_range.mp h
  omega
theorem w_opens {r : Gr} {x y w h : Int} (w1 : 1 ≤ w) (w2 : w ≤ 32) (h1 : 1 ≤ h) (h2 : h ≤ 32) (c : Cells r x y w h) (k : Q (.bl true) M) : callH (wpF gg fs (n + 2)) F_opens [gndI r, .int x, .int y, .int w, .int h] M Q X hq hx := by
  have bw := r.w
  have bh := r.h
  obtain ⟨cx, cx2⟩ := c.cx
  obtain ⟨cy, cy2⟩ := c.cy
  have e1 := fun (Q : DK1) (X : XK1) (hq : Hid Q) (hx : Hid X) => w_spanned (n := n) (M := M) (Q := Q) (X := X) (hq := hq) (hx := hx) (b := y) cy (by omega) h1 h2
  have e2 := fun (Q : DK1) (X : XK1) (hq : Hid Q) (hx : Hid X) => w_spanned (n := n) (M := M) (Q := Q) (X := X) (hq := hq) (hx := hx) (b := x) cx (by omega) w1 w2
  have a1 : ¬ x < 0 := by omega
  have a2 : ¬ y < 0 := by omega
  have a3 : ¬ x + w > 8 * (r.W : Int) := by omega
  have a4 : ¬ y + h > 8 * (r.rows.length : Int) := by omega
  rw [go_opens]
  walk_at "wp*"
  rw [rngL_def]
  refine forH_anyB (fun _ => false) (fun e => ∃ o5 o6, e = [some (gndI r), some (.int x), some (.int y), some (.int w), some (.int h), o5, o6]) False ⟨_, _, rfl⟩ trivial ?_ (fun q => by simp at q) (fun _ => ?_)
  · rintro p hp e kk ⟨o5, o6, rfl⟩ _ k2
    have k2 := k2 rfl _ ⟨some (.int (y / 8 + (p : Int))), o6, rfl⟩
    obtain ⟨p1, p2⟩ := mem_rngL hp
    generalize hr : y / 8 + (p : Int) = rr at p1 p2 k2 ⊢
    obtain ⟨s, hs, ea, ls, es⟩ := r.row (y := rr) (by omega) (by omega)
    have b2 : s.length ≤ 16777216 := by omega
    clear hs k a1 a2 a3 a4 hp hr
    walk_at "wp*"
    rw [rngL_def, lcH_mapT (fun c => .bl false) trivial (by rw [List.length_range]; omega) fun q hq kq => ?_]
    · walk_at "wp"
      simp only [any_false]
      walk_at "wp*"
    · obtain ⟨q1, q2⟩ := mem_rngL hq
      generalize hc : x / 8 + (q : Int) = cc at q1 q2 ⊢
      have ec := Gr.col (s := s) (x := cc) (by omega) (by omega)
      have hne : s.getD cc.toNat 35 ≠ 35 := by
        have := c.c rr cc p1 (by omega) q1 (by omega)
        unfold Gr.at at this
        rw [ea] at this
        exact this
      generalize s.getD cc.toNat 35 = z at ec hne
      clear e1 e2 k2 hq hc c ls
      walk_at "wp*"
  · rintro e ⟨o5, o6, rfl⟩
    walk_at "wp*"
theorem w_shares {ks : List Kd} {p q : Pl} (hks : ∀ k ∈ ks, KdOK k) : callH (wpF gg fs (n + 1)) F_shares [kdI (kat ks p.k), .int p.x, .int p.y, kdI (kat ks q.k), .int q.x, .int q.y] M Q X hq hx = Q (.bl (commonF ks p q)) M := by
  have hp := kat_ok hks p.k
  have hq2 := kat_ok hks q.k
  have hF : commonF ks p q = (!decide (p.x ≥ q.x + (kat ks q.k).w) && (!decide (q.x ≥ p.x + (kat ks p.k).w) && (decide (p.y < q.y + (kat ks q.k).h) && decide (q.y < p.y + (kat ks p.k).h)))) := by
    obtain ⟨⟨a1, a2⟩, ⟨a3, a4⟩, _⟩ := hp
    obtain ⟨⟨b1, b2⟩, ⟨b3, b4⟩, _⟩ := hq2
    apply Bool.eq_iff_iff.mpr
    unfold commonF
    simp only [Bool.and_eq_true, decide_eq_true_eq, Bool.not_eq_true', decide_eq_false_iff_not]
    unfold mn mx
    split <;> split <;> split <;> split <;> omega
  rw [go_shares]
  clear hp hq2
  walk_at "wp"
  rw [hF, fin_and, fin_not, fin_not]
theorem kdI_at {ks : List Kd} {k : Nat} (h : k < ks.length) : L2.atI (ks.map kdI) (k : Int) = some (kdI (kat ks k)) := by
  rw [atI_nat, List.getElem?_map, kat, List.getD_eq_getElem?_getD, List.getElem?_eq_getElem h]
  rfl
theorem w_is_clear {r : Gr} {ks : List Kd} {p : Pl} {ps : List Pl} (hks : ∀ k ∈ ks, KdOK k) (h1 : p.k < ks.length) (h2 : ∀ q ∈ ps, q.k < ks.length) (hc : clearF r ks p ps = true)
    (k : Q (.bl true) M) : callH (wpF gg fs (n + 3)) F_is_clear [gndI r, .tup (ks.map kdI), .int p.k, .int p.x, .int p.y, .lst (ps.map plD)] M Q X hq hx := by
  have e1 := kdI_at h1
  have ok := kat_ok hks p.k
  unfold clearF at hc
  rw [Bool.and_eq_true] at hc
  obtain ⟨hc1, hc2⟩ := hc
  have ce := cells_of ok.w.1 ok.h.1 hc1
  rw [go_is_clear]
  have w1 := ok.w
  have w2 := ok.h
  clear ok hc1
  walk_at "wp"
  simp only [e1]
  walk_at "wp"
  refine w_opens w1.1 w1.2 w2.1 w2.2 ce ?_
  clear w1 w2
  by_cases b2 : (kat ks p.k).s = true
  · rw [b2, Bool.not_true, Bool.false_or, Bool.not_eq_true'] at hc2
    have e2 := fun (q : Pl) (Q : DK1) (X : XK1) (hq : Hid Q) (hx : Hid X) => w_shares (n := n + 1) (M := M) (Q := Q) (X := X) (hq := hq) (hx := hx) (p := p) (q := q) hks
    walk_at "wp"
    simp only [b2]
    walk_at "wp"
    refine forH_anyB (fun q => (kat ks q.k).s && commonF ks p q) (fun e => ∃ o1 o2 o3, e = [some (gndI r), some (.tup (ks.map kdI)), some (.int p.k), some (.int p.x), some (.int p.y), some (.lst (ps.map plD)), some (kdI (kat ks p.k)), o1, o2, o3]) False ⟨_, _, _, rfl⟩ trivial ?_ (fun q => by rw [hc2] at q; cases q) (fun q => ?_)
    · rintro q hq e kk ⟨o1, o2, o3, rfl⟩ h3 h4
      have e3 := kdI_at (h2 q hq)
      have h4 := fun z => h4 z _ ⟨some (.int q.k), some (.int q.x), some (.int q.y), rfl⟩
      clear h2 hc2 k
      by_cases b3 : (kat ks q.k).s = true
      · by_cases b4 : commonF ks p q = true
        · exact (h3 (by simp [b3, b4])).elim
        · have h4 := h4 (by simp [b4])
          clear h3
          walk_at "wp*"
      · have h4 := h4 (by simp [b3])
        clear h3
        walk_at "wp*"
    · rintro e ⟨o1, o2, o3, rfl⟩
      walk_at "wp*"
  · walk_at "wp"
    simp only [b2]
    walk_at "wp"
    exact k
/-- is_body looks at no place -/
theorem w_is_body {r : Gr} {ks : List Kd} {pl c : Int} {b : Bd} {y : Int} (ok : BdOK pl b) (hn : b.num < c) (hk : b.p.k < ks.length) :
    callH (wpF gg fs (n + 5)) F_is_body [gameI r ks pl, .int c, .tup [.int b.num, .int b.p.k, .int b.p.x, .int y, .int b.dx, .int b.dy, .int b.own, .tup (b.cells.map .int)]] M Q X hq hx = Q (.bl true) M := by
  obtain ⟨h1, ⟨h2, h3⟩, ⟨h4, h5⟩, ⟨h6, h7⟩, ⟨h8, h9⟩⟩ := ok
  have b1 : b.num ≤ c - 1 := by omega
  have b2 : (b.p.k : Int) ≤ (ks.length : Int) - 1 := by omega
  have b3 : (0 : Int) ≤ b.p.k := by omega
  have e := fun (Q : DK1) (X : XK1) (hq : Hid Q) (hx : Hid X) => w_are_small (n := n) (M := M) (Q := Q) (X := X) (hq := hq) (hx := hx) (xs := b.cells) (k := 4) (by omega)
  rw [go_is_body]
  walk_at "wp*"
theorem w_is_body_non {r : Gr} {ks : List Kd} {pl c : Int} : callH (wpF gg fs (n + 5)) F_is_body [gameI r ks pl, .int c, .non] M Q X hq hx = Q (.bl false) M := by
  rw [go_is_body]
  walk_at "wp*"
theorem asc_zip {bs : List Bd} (h : bs.Pairwise fun a b => a.num < b.num) : (bs.zip bs.tail).all (fun p => decide (p.1.num < p.2.num)) = true := by
  induction bs with
  | nil => rfl
  | cons b bs ih =>
    cases bs with
    | nil => rfl
    | cons c cs =>
      rw [List.pairwise_cons] at h
      have := ih h.2
      simp only [List.tail_cons, List.zip_cons_cons, List.all_cons, Bool.and_eq_true, decide_eq_true_eq] at this ⊢
      exact ⟨h.1 c List.mem_cons_self, this⟩
theorem w_are_bodies {r : Gr} {ks : List Kd} {pl c : Int} {bs : List Bd} (hks : ∀ k ∈ ks, KdOK k) (ok : BsOK r ks pl bs c) (hl : bs.length ≤ 7) (k : Q (.bl true) M) :
    callH (wpF gg fs (n + 6)) F_are_bodies [gameI r ks pl, .int c, .tup (bs.map bdD)] M Q X hq hx := by
  have b1 : (bs.length : Int) ≤ 32 := by omega
  have b2 : (0 : Int) ≤ bs.length := by omega
  rw [go_are_bodies]
  walk_at "wp*"
  rw [lcH_mapT (fun c => .bl true) trivial (by omega) fun b hb k => ?_]
  · walk_at "wp"
    simp only [List.all_eq_true.mpr fun _ _ => rfl]
    walk_at "wp"
    rw [← List.map_tail, zipL_map, lcH_mapT (fun p => .bl (decide (p.1.num < p.2.num))) ⟨trivial, trivial⟩ (by simp only [List.length_zip]; omega) fun p hp k => ?_]
    · walk_at "wp"
      simp only [asc_zip ok.asc]
      walk_at "wp"
      rw [lcH_mapT (fun b => plD b.p) trivial (by omega) fun b hb k => ?_]
      · walk_at "wp"
        rw [enumL_map]
        refine forH_anyB (fun _ => false) (fun e => ∃ o1 o2 o3 o4 o5 o6 o7, e = [some (gameI r ks pl), some (.int c), some (.tup (bs.map bdD)), some (.lst (bs.map fun b => plD b.p)), o1, o2, o3, o4, o5, o6, o7]) False ⟨_, _, _, _, _, _, _, rfl⟩ trivial ?_ (fun q => by simp at q) (fun q => ?_)
        · rintro p hp e kk ⟨o1, o2, o3, o4, o5, o6, o7, rfl⟩ _ h4
          have hp2 := List.mem_zipIdx_iff_getElem?.mp hp
          have h4 := h4 rfl _ ⟨some (.int (p.2 : Nat)), o2, some (.int p.1.p.k), some (.int p.1.p.x), some (.int p.1.p.y), o6, o7, rfl⟩
          clear k hp
          walk_at "wp"
          have hm : (bs.map Bd.p)[p.2]? = some p.1.p := by rw [List.getElem?_map, hp2]; rfl
          have hcl := ok.p.c p.2 p.1.p hm
          rw [show (bs.map fun b => plD b.p).take p.2 = ((bs.map Bd.p).take p.2).map plD by rw [← List.map_take, ← List.map_take, List.map_map]; rfl]
          refine w_is_clear hks (ok.p.k _ (List.mem_of_getElem? hm)) (fun q hq => ok.p.k q (List.mem_of_mem_take hq)) hcl ?_
          walk_at "wp"
          exact h4
        · rintro e ⟨o1, o2, o3, o4, o5, o6, o7, rfl⟩
          walk_at "wp"
          exact k
      · walk_at "wp"
    · walk_at "wp"
  · have hb1 := ok.b b hb
    have e := fun (Q : DK1) (X : XK1) (hq : Hid Q) (hx : Hid X) => w_is_body (n := n) (M := M) (Q := Q) (X := X) (hq := hq) (hx := hx) (r := r) (ks := ks) (y := b.p.y) hb1.1 hb1.2 (ok.p.k _ (List.mem_map.mpr ⟨b, hb, rfl⟩))
    clear hb1 ok hks
    walk_at "wp*"
end
end S

set_option Elab.async false
set_option linter.all false
set_option maxRecDepth 100000
set_option maxHeartbeats 4000000
/-! PH: worlds and what is none. -/
namespace S
open Lw Wp
open PySem (Addr)
local macro_rules | `(tactic| walk_at "wp") => `(tactic| try simp -dsimp -implicitDefEqProofs only [↓Wp.u_var, ↓Wp.u_cst, ↓Wp.u_glb, ↓Wp.u_fld, ↓Wp.u_bin, ↓Wp.u_neg, ↓Wp.u_cmp, ↓Wp.u_chn, ↓Wp.u_isN, ↓Wp.u_notN, ↓Wp.u_isB, ↓Wp.u_and, ↓Wp.u_or, ↓Wp.u_not, ↓Wp.u_ite, ↓Wp.u_tup, ↓Wp.u_lst, ↓Wp.u_dct0, ↓Wp.u_dct1, ↓Wp.u_call, ↓Wp.u_make, ↓Wp.u_meth, ↓Wp.u_bi, ↓Wp.u_bm, ↓Wp.u_idx, ↓Wp.u_sl, ↓Wp.u_rev, ↓Wp.u_lc, ↓Wp.u_frz, ↓Wp.u_nil, ↓Wp.u_cons, ↓Wp.u_tval, ↓Wp.u_tand, ↓Wp.u_tor, ↓Wp.u_tnot, ↓Wp.u_tn, ↓Wp.u_ts, ↓Wp.u_on, ↓Wp.u_os, ↓Wp.u_of, ↓Wp.u_rng1, ↓Wp.u_rng2, ↓Wp.u_rng3, ↓Wp.u_enum, ↓Wp.u_zip, ↓Wp.u_tname, ↓Wp.u_tfld, ↓Wp.u_tidx, ↓Wp.u_ttup, ↓Wp.u_tnil, ↓Wp.u_tcons, ↓Wp.u_set, ↓Wp.u_par, ↓Wp.u_aug, ↓Wp.u_ife, ↓Wp.u_for, ↓Wp.u_whil, ↓Wp.u_ret, ↓Wp.u_retN, ↓Wp.u_raise, ↓Wp.u_exp, ↓Wp.u_pass, ↓Wp.u_brk, ↓Wp.u_cnt, ↓Wp.u_never, ↓Wp.u_try, ↓Wp.u_snil, ↓Wp.u_scons, ↓Wp.u_augf, ↓Wp.u_turnL, ↓Wp.u_turnF, ↓Wp.opt_un, ↓reduceIte, Wp.optH_some, Wp.optH_none, Wp.u_finF, Wp.u_finL, Wp.u_finD, Wp.vr, Wp.bO, Wp.iO, Wp.nonD, Wp.blD, Lw.wipeE, Wp.parE, Wp.deref_non, Wp.deref_bl, Wp.deref_int, Wp.deref_str, Wp.deref_tup, Wp.deref_lst, Wp.deref_ins, Wp.deref_dct, Wp.deref_scr, Wp.deref_loc, Lw.truthF, Lw.lenF, Lw.keyF, Lw.getK, Lw.putK, Lw.idxF, Wp.idx_str, Lw.slF, Lw.revF, Lw.addF, Lw.subF, Wp.mulF_ok, Wp.mulF_r, Wp.mulF_l, Wp.mulF_lst, Wp.mulF_tup, Wp.mulF_str, Lw.fdivF, Lw.modF, Lw.powF, Lw.binF, Lw.augF, Lw.eqF, Lw.flatD, Lw.eqFl, Lw.inF, Lw.intsF, Lw.cmpF, Lw.isiF, Lw.lookF, Lw.fldF, Lw.clsF, Lw.mthF, Lw.strsF, Lw.blsF, Lw.one, Lw.two, Lw.tupleF, Lw.listF, Lw.intF, L2.ixN, Lw.min2F, Lw.max2F, Lw.maxlF, Lw.minlF, Lw.sumF, Lw.strF, Lw.absF, Lw.lrngF, Lw.isisF, Lw.biF, Lw.splitF, Lw.upperF, Lw.getF, Lw.bmF, Lw.extF, Lw.popF, Lw.bmM, Lw.argF, Lw.lstAt, Lw.itemsF, Lw.gdOf, Lw.frzF, Lw.setF, Lw.putFld, Lw.putIdx, Lw.bmT, Lw.bmW, Lw.tgsFit, Wp.dropE_nil, Wp.dropE_cons, Lw.delL, Wp.atI_zero, Wp.atI_pos, Wp.atI_last, Lw.Mem.set_same, Lw.Mem.set_set, Lw.Mem.set_ne, Lw.Mem.del_set, Wp.rngL_length, Wp.join_signs, Wp.mem_swap, Wp.sizeLine_val, Wp.one_inj, List.cons_append, List.nil_append, Int.reduceAbs, Nat.reducePow, Nat.reduceMod, Nat.reduceDiv, Nat.reduceAdd, Nat.reduceMul, Nat.reduceSub, Nat.reduceLT, Nat.reduceLeDiff, Nat.reduceEqDiff, Int.reduceAdd, Int.reduceSub, Int.reduceMul, Int.reduceLT, Int.reduceLE, Int.reduceGT, Int.reduceGE, Int.reduceEq, Int.reduceNe, Int.reducePow, Int.reduceToNat, Int.reduceDiv, Int.reduceMod, reduceCtorEq, Int.cast_ofNat_Int, if_true, if_false, Bool.false_eq_true, Option.some.injEq, Option.map_some, Option.bind_some, Option.map_none, Option.bind_none, Option.join_some, Option.isSome_some, Option.isSome_none, List.length_range, List.map_cons, List.map_nil, List.length_cons, List.length_nil, List.length_map, List.set_cons_zero, List.set_cons_succ, List.mem_cons, List.not_mem_nil, List.all_cons, List.all_nil, List.any_cons, List.any_nil, Bool.and_eq_true, Bool.and_true, Bool.true_and, Bool.and_false, Bool.false_and, Bool.or_false, Bool.false_or, Bool.or_true, Bool.true_or, Bool.not_true, Bool.not_false, Bool.not_eq_true, Bool.not_eq_false', Bool.not_eq_true', decide_eq_true_eq, decide_eq_false_iff_not, decide_true, decide_false, and_true, true_and, and_false, false_and, or_true, true_or, or_false, false_or, not_true_eq_false, not_false_eq_true, eq_self, ite_self, ne_eq, Int.reduceNeg, List.cons_ne_nil, S.gc_MOST_SMALL, S.gc_LEAST_SMALL, S.gc_MOST_SIGNS, S.gc_FREE, S.gc_WALL, S.gc_MARKS, S.gc_CELL, S.gc_PRIME, S.gc_MOST_SPEED, S.gc_MANY_CELLS, S.gc_MOST_BODIES_worlds, S.gc_MOST_TICK, S.gc_MANY_SHARED, S.gc_MOST_SAID, S.gc_LINE_END, S.gc_LETTERS, S.gc_BLANK, S.gc_MOST_ROWS, S.gc_MOST_SIDE, S.gc_MOST_PULL, S.gc_MOST_PLAYERS, S.gc_MOST_KINDS, S.gc_MOST_BIRTHS, S.gm_Screen_show, S.gm_Screen_shown, S.gm_Screen_picture, S.gi_Ground, S.gi_Kind, S.gi_Game, S.gi_World, S.gi_Screen, S.gf_Ground, S.gf_Kind, S.gf_Game, S.gf_World, S.gf_Screen, S.gs_NoWorld_NoWorld, S.gcls, S.N_Ground, S.N_rows, S.N_wide, S.N_high, S.N_Kind, S.N_solid, S.N_pull, S.N_program, S.N_Game, S.N_players, S.N_ground, S.N_kinds, S.N_births, S.N_World, S.N_tick, S.N_seed, S.N_shared, S.N_count, S.N_bodies, S.N_said, S.N_Screen, S.N_played, S.N_drawing, S.N_times, S.N_NoWorld, S.N_show, S.N_shown, S.N_picture, S.N_Program, S.w_is_integer, S.w_is_within, S.w_is_sized, S.w_is_sized_non, S.allF_map, S.anyF_map, S.w_is_small, S.w_is_seed, S.w_is_speed, S.w_are_small, S.w_law_sign, S.w_law_spots, S.w_law_common, S.w_law_program_of, S.cut14, S.cut_3, S.cut_4, S.cut_7, S.cut4_, S.cut1_, S.cut_n, S.w_is_body_non])
local macro_rules | `(tactic| walk_at "wp*") => `(tactic| try simp -dsimp -implicitDefEqProofs only [↓Wp.u_var, ↓Wp.u_cst, ↓Wp.u_glb, ↓Wp.u_fld, ↓Wp.u_bin, ↓Wp.u_neg, ↓Wp.u_cmp, ↓Wp.u_chn, ↓Wp.u_isN, ↓Wp.u_notN, ↓Wp.u_isB, ↓Wp.u_and, ↓Wp.u_or, ↓Wp.u_not, ↓Wp.u_ite, ↓Wp.u_tup, ↓Wp.u_lst, ↓Wp.u_dct0, ↓Wp.u_dct1, ↓Wp.u_call, ↓Wp.u_make, ↓Wp.u_meth, ↓Wp.u_bi, ↓Wp.u_bm, ↓Wp.u_idx, ↓Wp.u_sl, ↓Wp.u_rev, ↓Wp.u_lc, ↓Wp.u_frz, ↓Wp.u_nil, ↓Wp.u_cons, ↓Wp.u_tval, ↓Wp.u_tand, ↓Wp.u_tor, ↓Wp.u_tnot, ↓Wp.u_tn, ↓Wp.u_ts, ↓Wp.u_on, ↓Wp.u_os, ↓Wp.u_of, ↓Wp.u_rng1, ↓Wp.u_rng2, ↓Wp.u_rng3, ↓Wp.u_enum, ↓Wp.u_zip, ↓Wp.u_tname, ↓Wp.u_tfld, ↓Wp.u_tidx, ↓Wp.u_ttup, ↓Wp.u_tnil, ↓Wp.u_tcons, ↓Wp.u_set, ↓Wp.u_par, ↓Wp.u_aug, ↓Wp.u_ife, ↓Wp.u_for, ↓Wp.u_whil, ↓Wp.u_ret, ↓Wp.u_retN, ↓Wp.u_raise, ↓Wp.u_exp, ↓Wp.u_pass, ↓Wp.u_brk, ↓Wp.u_cnt, ↓Wp.u_never, ↓Wp.u_try, ↓Wp.u_snil, ↓Wp.u_scons, ↓Wp.u_augf, ↓Wp.u_turnL, ↓Wp.u_turnF, ↓Wp.opt_un, ↓reduceIte, Wp.optH_some, Wp.optH_none, Wp.u_finF, Wp.u_finL, Wp.u_finD, Wp.vr, Wp.bO, Wp.iO, Wp.nonD, Wp.blD, Lw.wipeE, Wp.parE, Wp.deref_non, Wp.deref_bl, Wp.deref_int, Wp.deref_str, Wp.deref_tup, Wp.deref_lst, Wp.deref_ins, Wp.deref_dct, Wp.deref_scr, Wp.deref_loc, Lw.truthF, Lw.lenF, Lw.keyF, Lw.getK, Lw.putK, Lw.idxF, Wp.idx_str, Lw.slF, Lw.revF, Lw.addF, Lw.subF, Wp.mulF_ok, Wp.mulF_r, Wp.mulF_l, Wp.mulF_lst, Wp.mulF_tup, Wp.mulF_str, Lw.fdivF, Lw.modF, Lw.powF, Lw.binF, Lw.augF, Lw.eqF, Lw.flatD, Lw.eqFl, Lw.inF, Lw.intsF, Lw.cmpF, Lw.isiF, Lw.lookF, Lw.fldF, Lw.clsF, Lw.mthF, Lw.strsF, Lw.blsF, Lw.one, Lw.two, Lw.tupleF, Lw.listF, Lw.intF, L2.ixN, Lw.min2F, Lw.max2F, Lw.maxlF, Lw.minlF, Lw.sumF, Lw.strF, Lw.absF, Lw.lrngF, Lw.isisF, Lw.biF, Lw.splitF, Lw.upperF, Lw.getF, Lw.bmF, Lw.extF, Lw.popF, Lw.bmM, Lw.argF, Lw.lstAt, Lw.itemsF, Lw.gdOf, Lw.frzF, Lw.setF, Lw.putFld, Lw.putIdx, Lw.bmT, Lw.bmW, Lw.tgsFit, Wp.dropE_nil, Wp.dropE_cons, Lw.delL, Wp.atI_zero, Wp.atI_pos, Wp.atI_last, Lw.Mem.set_same, Lw.Mem.set_set, Lw.Mem.set_ne, Lw.Mem.del_set, Wp.rngL_length, Wp.join_signs, Wp.mem_swap, Wp.sizeLine_val, Wp.one_inj, List.cons_append, List.nil_append, Int.reduceAbs, Nat.reducePow, Nat.reduceMod, Nat.reduceDiv, Nat.reduceAdd, Nat.reduceMul, Nat.reduceSub, Nat.reduceLT, Nat.reduceLeDiff, Nat.reduceEqDiff, Int.reduceAdd, Int.reduceSub, Int.reduceMul, Int.reduceLT, Int.reduceLE, Int.reduceGT, Int.reduceGE, Int.reduceEq, Int.reduceNe, Int.reducePow, Int.reduceToNat, Int.reduceDiv, Int.reduceMod, reduceCtorEq, Int.cast_ofNat_Int, if_true, if_false, Bool.false_eq_true, Option.some.injEq, Option.map_some, Option.bind_some, Option.map_none, Option.bind_none, Option.join_some, Option.isSome_some, Option.isSome_none, List.length_range, List.map_cons, List.map_nil, List.length_cons, List.length_nil, List.length_map, List.set_cons_zero, List.set_cons_succ, List.mem_cons, List.not_mem_nil, List.all_cons, List.all_nil, List.any_cons, List.any_nil, Bool.and_eq_true, Bool.and_true, Bool.true_and, Bool.and_false, Bool.false_and, Bool.or_false, Bool.false_or, Bool.or_true, Bool.true_or, Bool.not_true, Bool.not_false, Bool.not_eq_true, Bool.not_eq_false', Bool.not_eq_true', decide_eq_true_eq, decide_eq_false_iff_not, decide_true, decide_false, and_true, true_and, and_false, false_and, or_true, true_or, or_false, false_or, not_true_eq_false, not_false_eq_true, eq_self, ite_self, ne_eq, Int.reduceNeg, List.cons_ne_nil, S.gc_MOST_SMALL, S.gc_LEAST_SMALL, S.gc_MOST_SIGNS, S.gc_FREE, S.gc_WALL, S.gc_MARKS, S.gc_CELL, S.gc_PRIME, S.gc_MOST_SPEED, S.gc_MANY_CELLS, S.gc_MOST_BODIES_worlds, S.gc_MOST_TICK, S.gc_MANY_SHARED, S.gc_MOST_SAID, S.gc_LINE_END, S.gc_LETTERS, S.gc_BLANK, S.gc_MOST_ROWS, S.gc_MOST_SIDE, S.gc_MOST_PULL, S.gc_MOST_PLAYERS, S.gc_MOST_KINDS, S.gc_MOST_BIRTHS, S.gm_Screen_show, S.gm_Screen_shown, S.gm_Screen_picture, S.gi_Ground, S.gi_Kind, S.gi_Game, S.gi_World, S.gi_Screen, S.gf_Ground, S.gf_Kind, S.gf_Game, S.gf_World, S.gf_Screen, S.gs_NoWorld_NoWorld, S.gcls, S.N_Ground, S.N_rows, S.N_wide, S.N_high, S.N_Kind, S.N_solid, S.N_pull, S.N_program, S.N_Game, S.N_players, S.N_ground, S.N_kinds, S.N_births, S.N_World, S.N_tick, S.N_seed, S.N_shared, S.N_count, S.N_bodies, S.N_said, S.N_Screen, S.N_played, S.N_drawing, S.N_times, S.N_NoWorld, S.N_show, S.N_shown, S.N_picture, S.N_Program, S.w_is_integer, S.w_is_within, S.w_is_sized, S.w_is_sized_non, S.allF_map, S.anyF_map, S.w_is_small, S.w_is_seed, S.w_is_speed, S.w_are_small, S.w_law_sign, S.w_law_spots, S.w_law_common, S.w_law_program_of, S.cut14, S.cut_3, S.cut_4, S.cut_7, S.cut4_, S.cut1_, S.cut_n, S.w_is_body_non, *])
section
variable {n : Nat} {M : Mem} {Q : DK1} {X : XK1} {hq : Hid Q} {hx hx' : Hid X}
theorem w_fits_ok {r : Gr} {ks : List Kd} {pl : Int} {w : Wd} (hks : ∀ k ∈ ks, KdOK k) (ok : WdOK r ks pl w) (k : Q (.bl true) M) :
    callH (wpF gg fs (n + 7)) F_fits [gameI r ks pl, wdL (wdParts w)] M Q X hq hx := by
  obtain ⟨⟨a1, a2⟩, ⟨a3, a4⟩, ⟨a5, a6⟩, ⟨a7, a8⟩, a9, a10, ⟨a11, a12⟩⟩ := ok
  have b1 : w.c ≤ 1000000000 := by omega
  have b2 : (w.said.length : Int) ≤ 64 := by omega
  have b3 : (0 : Int) ≤ w.said.length := by omega
  have e := fun (Q : DK1) (X : XK1) (hq : Hid Q) (hx : Hid X) => w_are_small (n := n + 2) (M := M) (Q := Q) (X := X) (hq := hq) (hx := hx) (xs := w.sh) (k := 8) (by omega)
  have b4 := a6
  clear a8
  rw [go_fits]
  walk_at "wp*"
  rw [lcH_mapT (fun i => .bl (smallB i)) trivial (by omega) fun b hb k => ?_]
  · walk_at "wp"
    simp only [a12]
    walk_at "wp"
    refine w_are_bodies hks a9 a10 ?_
    walk_at "wp"
    exact k
  · walk_at "wp"
/-- no object of a class -/
def oddD : D → Bool
  | .non => true
  | .bl _ => true
  | .int _ => true
  | .str _ => true
  | .tup _ => true
  | .lst _ => true
  | .dct _ _ => true
  | _ => false
theorem w_fits_odd {g d : D} (h : oddD d = true) (k : Q (.bl false) M) : callH (wpF gg fs (n + 1)) F_fits [g, d] M Q X hq hx := by
  rw [go_fits]
  cases d <;> first | (cases h; done) | walk_at "wp*"
@[reducible] def farD (b : Bd) : D := .tup [.int b.num, .int b.p.k, .int b.p.x, .int (-9), .int b.dx, .int b.dy, .int b.own, .tup (b.cells.map .int)]
@[reducible] def farP (w : Wd) : List D := [.int w.tick, .int w.seed, .tup (w.sh.map .int), .int w.c, .tup (w.bs.map farD ++ [.non]), .tup (w.said.map .int)]
theorem w_are_bodies_far {r : Gr} {ks : List Kd} {pl c : Int} {bs : List Bd} (hks : ∀ k ∈ ks, KdOK k) (ok : BsOK r ks pl bs c) (hl : bs.length ≤ 7) :
    callH (wpF gg fs (n + 6)) F_are_bodies [gameI r ks pl, .int c, .tup (bs.map farD ++ [.non])] M Q X hq hx = Q (.bl false) M := by
  have e0 : bs.map farD ++ [D.non] = (bs.map some ++ [none]).map fun o => match o with
    | some b => farD b
    | none => D.non := by simp [Function.comp_def]
  rw [e0]
  have b1 : ((bs.map some ++ [none]).length : Int) ≤ 32 := by simp only [List.length_append, List.length_map, List.length_cons, List.length_nil]; omega
  have b2 : (0 : Int) ≤ (bs.map some ++ [none]).length := by omega
  have b3 : (bs.map some ++ [none]).length ≤ 16777216 := by omega
  have hm : ∀ b, some b ∈ bs.map some ++ [none] → b ∈ bs := by
    intro b hb
    simpa using hb
  have hn : none ∈ bs.map some ++ [none] := by simp
  generalize bs.map some ++ [none] = xs at *
  rw [go_are_bodies]
  walk_at "wp*"
  rw [lcH_mapT (fun o => .bl o.isSome) trivial b3 fun o ho k => ?_]
  · walk_at "wp"
    have : xs.all (fun o => o.isSome) = false := by
      apply Bool.eq_false_iff.mpr
      intro q
      have := List.all_eq_true.mp q none hn
      cases this
    simp only [this]
    walk_at "wp"
  · cases o with
    | none =>
      walk_at "wp"
    | some b =>
      have hb := hm b ho
      have hb1 := ok.b b hb
      have e := fun (Q : DK1) (X : XK1) (hq : Hid Q) (hx : Hid X) => w_is_body (n := n) (M := M) (Q := Q) (X := X) (hq := hq) (hx := hx) (r := r) (ks := ks) (y := -9) hb1.1 hb1.2 (ok.p.k _ (List.mem_map.mpr ⟨b, hb, rfl⟩))
      clear hb1 ok hks hm hn hb ho b1 b2 b3
      walk_at "wp*"
theorem w_fits_far {r : Gr} {ks : List Kd} {pl : Int} {w : Wd} (hks : ∀ k ∈ ks, KdOK k) (ok : WdOK r ks pl w) (k : Q (.bl false) M) :
    callH (wpF gg fs (n + 7)) F_fits [gameI r ks pl, wdL (farP w)] M Q X hq hx := by
  obtain ⟨⟨a1, a2⟩, ⟨a3, a4⟩, ⟨a5, a6⟩, ⟨a7, a8⟩, a9, a10, ⟨a11, a12⟩⟩ := ok
  have b1 : w.c ≤ 1000000000 := by omega
  have b2 : (w.said.length : Int) ≤ 64 := by omega
  have b3 : (0 : Int) ≤ w.said.length := by omega
  have e := fun (Q : DK1) (X : XK1) (hq : Hid Q) (hx : Hid X) => w_are_small (n := n + 2) (M := M) (Q := Q) (X := X) (hq := hq) (hx := hx) (xs := w.sh) (k := 8) (by omega)
  have b4 := a6
  clear a8
  rw [go_fits]
  walk_at "wp*"
  rw [lcH_mapT (fun i => .bl (smallB i)) trivial (by omega) fun b hb k => ?_]
  · walk_at "wp"
    simp only [a12]
    walk_at "wp"
    rw [w_are_bodies_far hks a9 a10]
    walk_at "wp"
    exact k
  · walk_at "wp"
/-- what is no world of the game -/
structure NoW (g d : D) : Prop where
  f : ∀ (n : Nat) (M : Mem) (Q : DK1) (X : XK1) (hq : Hid Q) (hx : Hid X), Q (.bl false) M → callH (wpF gg fs (n + 7)) F_fits [g, d] M Q X hq hx
theorem NoW.odd {g d : D} (h : oddD d = true) : NoW g d := ⟨fun n M Q X hq hx k => w_fits_odd h k⟩
theorem NoW.far {r : Gr} {ks : List Kd} {pl : Int} {w : Wd} (hks : ∀ k ∈ ks, KdOK k) (ok : WdOK r ks pl w) : NoW (gameI r ks pl) (wdL (farP w)) := ⟨fun n M Q X hq hx k => w_fits_far hks ok k⟩
theorem check_ok {r : Gr} {ks : List Kd} {pl : Int} {w : Wd} (hks : ∀ k ∈ ks, KdOK k) (ok : WdOK r ks pl w) (k : Q .non M) : callH (wpF gg fs (n + 8)) F_check_world [gameI r ks pl, wdL (wdParts w)] M Q X hq hx := by
  rw [go_check_world]
  walk_at "wp"
  refine w_fits_ok hks ok ?_
  walk_at "wp"
  exact k
theorem check_no {g d : D} (h : NoW g d) (k : X ⟨N_NoWorld⟩ M) : callH (wpF gg fs (n + 8)) F_check_world [g, d] M Q X hq hx := by
  rw [go_check_world]
  walk_at "wp"
  refine h.f n M _ _ _ _ ?_
  walk_at "wp"
  exact k
theorem odd_spec {a : Addr} {h : Hand} (ha : M a = some (handMO h)) (hk : HandOK h)
    (k : ∀ d h', oddD d = true → HandOK h' → Q d (M.set a (handMO h'))) : callH (wpF gg fs (n + 2)) F_law_odd [.loc a] M Q X hq hx := by
  rw [go_law_odd]
  walk_at "wp"
  refine take_spec ha hk (by decide) (by decide) fun v h1 hk1 v0 v1 => ?_
  walk_at "wp"
  split
  · obtain ⟨x, hm, _, e⟩ := atI_some (xs := [D.non, .bl true, .bl false, .str [], .str [97], .str [48]]) v0 (by simp only [List.length_cons, List.length_nil]; omega)
    walk_at "wp"
    simp only [e]
    walk_at "wp"
    simp only [List.mem_cons, List.not_mem_nil, or_false] at hm
    rcases hm with rfl | rfl | rfl | rfl | rfl | rfl <;> exact k _ _ rfl hk1
  · split
    · obtain ⟨x, hm, _, e⟩ := atI_some (xs := [D.tup [], .lst [], .dct [] [], .tup [.int 1], .lst [.int 0], .tup [.tup []]]) (i := v - 6) (by omega) (by simp only [List.length_cons, List.length_nil]; omega)
      walk_at "wp"
      simp only [e]
      walk_at "wp"
      simp only [List.mem_cons, List.not_mem_nil, or_false] at hm
      rcases hm with rfl | rfl | rfl | rfl | rfl | rfl <;> exact k _ _ rfl hk1
    · split
      · obtain ⟨x, hm, _, e⟩ := atI_some (xs := [D.int (-1), .int 2147483648, .int (-2147483649), .int 99999999999999999999, .int (-99999999999999999999), .int 300]) (i := v - 12) (by omega) (by simp only [List.length_cons, List.length_nil]; omega)
        walk_at "wp"
        simp only [e]
        walk_at "wp"
        simp only [List.mem_cons, List.not_mem_nil, or_false] at hm
        rcases hm with rfl | rfl | rfl | rfl | rfl | rfl <;> exact k _ _ rfl hk1
      · split
        · walk_at "wp"

          exact k _ _ rfl hk1
        · exact k _ _ rfl hk1
end
end S

set_option Elab.async false
set_option linter.all false
set_option maxRecDepth 100000
set_option maxHeartbeats 4000000
/-! PI: pictures: the plain part. -/
namespace S
open Lw Wp
open PySem (Addr)
abbrev Gd := Int → Int → Nat
def gridR (W H : Nat) (G : Gd) : List (List Nat) := (List.range H).map fun y : Nat => (List.range W).map fun x : Nat => G y x
def updG (G : Gd) (y x : Int) (c : Nat) : Gd := fun b a => if b = y ∧ a = x then c else G b a
theorem gridR_len {W H : Nat} {G : Gd} : (gridR W H G).length = H := by simp [gridR]
theorem gridR_row {W H : Nat} {G : Gd} {y : Nat} (h : y < H) : (gridR W H G)[y]? = some ((List.range W).map fun x : Nat => G y x) := by
  simp [gridR, h]
theorem gridR_rowlen {W H : Nat} {G : Gd} : ∀ r ∈ gridR W H G, r.length = W := by
  intro r hr
  simp only [gridR, List.mem_map] at hr
  obtain ⟨y, _, rfl⟩ := hr
  simp
theorem gridR_ext {W H : Nat} {G G' : Gd} (h : ∀ y x : Int, 0 ≤ y → y < H → 0 ≤ x → x < W → G y x = G' y x) : gridR W H G = gridR W H G' := by
  unfold gridR
  apply List.map_congr_left
  intro y hy
  apply List.map_congr_left
  intro x hx
  have := List.mem_range.mp hy
  have := List.mem_range.mp hx
  exact h _ _ (by omega) (by omega) (by omega) (by omega)
theorem gridR_set {W H : Nat} {G : Gd} {y x : Nat} {c : Nat} (hy : y < H) (hx : x < W) :
    (gridR W H G).set y (((List.range W).map fun a : Nat => G y a).set x c) = gridR W H (updG G y x c) := by
  apply List.ext_getElem?
  intro i
  by_cases hi : i < H
  · rw [gridR_row hi]
    by_cases e : y = i
    · subst e
      rw [List.getElem?_set_self (by rw [gridR_len]; exact hy)]
      congr 1
      apply List.ext_getElem?
      intro j
      by_cases hj : j < W
      · by_cases ej : x = j
        · subst ej
          rw [List.getElem?_set_self (by simpa using hj)]
          simp [hj, updG]
        · rw [List.getElem?_set_ne ej]
          have : ¬ ((j : Int) = x) := by omega
          simp [hj, updG, this]
      · rw [List.getElem?_eq_none (by simp; omega), List.getElem?_eq_none (by simp; omega)]
    · rw [List.getElem?_set_ne e, gridR_row hi]
      have : ¬ ((i : Int) = y) := by omega
      simp [updG, this]
  · rw [List.getElem?_eq_none (by simp [gridR]; omega), List.getElem?_eq_none (by simp [gridR]; omega)]
def groundG (r : Gr) : Gd := fun y x => r.at y.toNat x.toNat
theorem grid_ground (r : Gr) : r.rows = gridR r.W r.rows.length (groundG r) := by
  apply List.ext_getElem?
  intro i
  by_cases hi : i < r.rows.length
  · rw [gridR_row hi, List.getElem?_eq_getElem hi]
    congr 1
    have hl := r.ok.len _ (List.getElem_mem hi)
    apply List.ext_getElem?
    intro j
    by_cases hj : j < r.W
    · rw [List.getElem?_eq_getElem (by omega)]
      simp [hj, groundG, Gr.at, List.getD_eq_getElem?_getD, hi]
      rw [List.getElem?_eq_getElem (by omega)]
      rfl
    · rw [List.getElem?_eq_none (by omega), List.getElem?_eq_none (by simp; omega)]
  · rw [List.getElem?_eq_none (by omega), List.getElem?_eq_none (by simp [gridR]; omega)]
/-! painting -/
def rngI (a b : Int) : List Int := (List.range (b - a).toNat).map fun i : Nat => a + (i : Int)
theorem mem_rngI {a b x : Int} : x ∈ rngI a b ↔ a ≤ x ∧ x < b := by
  simp only [rngI, List.mem_map, List.mem_range]
  constructor
  · rintro ⟨i, h, rfl⟩
    omega
  · intro h
    exact ⟨(x - a).toNat, by omega, by omega⟩
theorem rngL_I {a b : Int} : rngL a b = (rngI a b).map .int := by
  simp [rngL, rngI, Function.comp_def]
def paintRow (c : Nat) (y : Int) (xs : List Int) (G : Gd) : Gd := xs.foldl (fun G x => updG G y x c) G
def paintRows (c : Nat) (ys xs : List Int) (G : Gd) : Gd := ys.foldl (fun G y => paintRow c y xs G) G
theorem paintRow_at {c : Nat} {y : Int} : ∀ (xs : List Int) (G : Gd) (b a : Int), paintRow c y xs G b a = if b = y ∧ a ∈ xs then c else G b a
  | [], G, b, a => by simp [paintRow]
  | x :: xs, G, b, a => by
    show paintRow c y xs (updG G y x c) b a = _
    rw [paintRow_at xs]
    by_cases h1 : b = y <;> by_cases h2 : a ∈ xs <;> by_cases h3 : a = x <;> simp [updG, h1, h2, h3]
theorem paintRows_at {c : Nat} {xs : List Int} : ∀ (ys : List Int) (G : Gd) (b a : Int), paintRows c ys xs G b a = if b ∈ ys ∧ a ∈ xs then c else G b a
  | [], G, b, a => by simp [paintRows]
  | y :: ys, G, b, a => by
    show paintRows c ys xs (paintRow c y xs G) b a = _
    rw [paintRows_at ys, paintRow_at]
    by_cases h1 : b = y <;> by_cases h2 : a ∈ xs <;> by_cases h3 : b ∈ ys <;> simp [h1, h2, h3]
/-- the sign of a body -/
def letF (b : Bd) : Nat := if b.own < 0 then 97 + b.p.k else 65 + b.p.k
def ysOf (ks : List Kd) (b : Bd) : List Int := rngI (b.p.y / 8) ((b.p.y + (kat ks b.p.k).h - 1) / 8 + 1)
def xsOf (ks : List Kd) (b : Bd) : List Int := rngI (b.p.x / 8) ((b.p.x + (kat ks b.p.k).w - 1) / 8 + 1)
def paintB (ks : List Kd) (G : Gd) (b : Bd) : Gd := paintRows (letF b) (ysOf ks b) (xsOf ks b) G
/-- the law's look: does a body lie in a cell? -/
def covF (ks : List Kd) (y x : Int) (b : Bd) : Bool := decide (b.p.x < 8 * x + 8) && (decide (8 * x < b.p.x + (kat ks b.p.k).w) && (decide (b.p.y < 8 * y + 8) && decide (8 * y < b.p.y + (kat ks b.p.k).h)))
theorem cov_iff {ks : List Kd} {b : Bd} {y x : Int} : (y ∈ ysOf ks b ∧ x ∈ xsOf ks b) ↔ covF ks y x b = true := by
  simp only [ysOf, xsOf, mem_rngI, covF, Bool.and_eq_true, decide_eq_true_eq]
  omega
def seenG (r : Gr) (ks : List Kd) (bs : List Bd) : Gd := fun y x => match bs.find? (covF ks y x) with
  | some b => letF b
  | none => groundG r y x
theorem paint_all {r : Gr} {ks : List Kd} : ∀ (bs : List Bd) (y x : Int), bs.reverse.foldl (paintB ks) (groundG r) y x = seenG r ks bs y x
  | [], y, x => rfl
  | b :: bs, y, x => by
    rw [List.reverse_cons, List.foldl_append]
    show paintB ks (bs.reverse.foldl (paintB ks) (groundG r)) b y x = _
    have e : ∀ G, paintB ks G b y x = if y ∈ ysOf ks b ∧ x ∈ xsOf ks b then letF b else G y x := fun G => paintRows_at _ _ _ _
    rw [e, paint_all bs y x]
    unfold seenG
    rw [List.find?_cons]
    by_cases h : covF ks y x b = true
    · rw [if_pos (cov_iff.mpr h), h]
    · rw [if_neg (fun q => h (cov_iff.mp q))]
      simp only [h]
end S

set_option Elab.async false
set_option linter.all false
set_option maxRecDepth 100000
set_option maxHeartbeats 4000000
/-! PJ: pictures, by the program and by the law. -/
namespace S
open Lw Wp
open PySem (Addr)
local macro_rules | `(tactic| walk_at "wp") => `(tactic| try simp -dsimp -implicitDefEqProofs only [↓Wp.u_var, ↓Wp.u_cst, ↓Wp.u_glb, ↓Wp.u_fld, ↓Wp.u_bin, ↓Wp.u_neg, ↓Wp.u_cmp, ↓Wp.u_chn, ↓Wp.u_isN, ↓Wp.u_notN, ↓Wp.u_isB, ↓Wp.u_and, ↓Wp.u_or, ↓Wp.u_not, ↓Wp.u_ite, ↓Wp.u_tup, ↓Wp.u_lst, ↓Wp.u_dct0, ↓Wp.u_dct1, ↓Wp.u_call, ↓Wp.u_make, ↓Wp.u_meth, ↓Wp.u_bi, ↓Wp.u_bm, ↓Wp.u_idx, ↓Wp.u_sl, ↓Wp.u_rev, ↓Wp.u_lc, ↓Wp.u_frz, ↓Wp.u_nil, ↓Wp.u_cons, ↓Wp.u_tval, ↓Wp.u_tand, ↓Wp.u_tor, ↓Wp.u_tnot, ↓Wp.u_tn, ↓Wp.u_ts, ↓Wp.u_on, ↓Wp.u_os, ↓Wp.u_of, ↓Wp.u_rng1, ↓Wp.u_rng2, ↓Wp.u_rng3, ↓Wp.u_enum, ↓Wp.u_zip, ↓Wp.u_tname, ↓Wp.u_tfld, ↓Wp.u_tidx, ↓Wp.u_ttup, ↓Wp.u_tnil, ↓Wp.u_tcons, ↓Wp.u_set, ↓Wp.u_par, ↓Wp.u_aug, ↓Wp.u_ife, ↓Wp.u_for, ↓Wp.u_whil, ↓Wp.u_ret, ↓Wp.u_retN, ↓Wp.u_raise, ↓Wp.u_exp, ↓Wp.u_pass, ↓Wp.u_brk, ↓Wp.u_cnt, ↓Wp.u_never, ↓Wp.u_try, ↓Wp.u_snil, ↓Wp.u_scons, ↓Wp.u_augf, ↓Wp.u_turnL, ↓Wp.u_turnF, ↓Wp.opt_un, ↓reduceIte, Wp.optH_some, Wp.optH_none, Wp.u_finF, Wp.u_finL, Wp.u_finD, Wp.vr, Wp.bO, Wp.iO, Wp.nonD, Wp.blD, Lw.wipeE, Wp.parE, Wp.deref_non, Wp.deref_bl, Wp.deref_int, Wp.deref_str, Wp.deref_tup, Wp.deref_lst, Wp.deref_ins, Wp.deref_dct, Wp.deref_scr, Wp.deref_loc, Lw.truthF, Lw.lenF, Lw.keyF, Lw.getK, Lw.putK, Lw.idxF, Wp.idx_str, Lw.slF, Lw.revF, Lw.addF, Lw.subF, Wp.mulF_ok, Wp.mulF_r, Wp.mulF_l, Wp.mulF_lst, Wp.mulF_tup, Wp.mulF_str, Lw.fdivF, Lw.modF, Lw.powF, Lw.binF, Lw.augF, Lw.eqF, Lw.flatD, Lw.eqFl, Lw.inF, Lw.intsF, Lw.cmpF, Lw.isiF, Lw.lookF, Lw.fldF, Lw.clsF, Lw.mthF, Lw.strsF, Lw.blsF, Lw.one, Lw.two, Lw.tupleF, Lw.listF, Lw.intF, L2.ixN, Lw.min2F, Lw.max2F, Lw.maxlF, Lw.minlF, Lw.sumF, Lw.strF, Lw.absF, Lw.lrngF, Lw.isisF, Lw.biF, Lw.splitF, Lw.upperF, Lw.getF, Lw.bmF, Lw.extF, Lw.popF, Lw.bmM, Lw.argF, Lw.lstAt, Lw.itemsF, Lw.gdOf, Lw.frzF, Lw.setF, Lw.putFld, Lw.putIdx, Lw.bmT, Lw.bmW, Lw.tgsFit, Wp.dropE_nil, Wp.dropE_cons, Lw.delL, Wp.atI_zero, Wp.atI_pos, Wp.atI_last, Lw.Mem.set_same, Lw.Mem.set_set, Lw.Mem.set_ne, Lw.Mem.del_set, Wp.rngL_length, Wp.join_signs, Wp.mem_swap, Wp.sizeLine_val, Wp.one_inj, List.cons_append, List.nil_append, Int.reduceAbs, Nat.reducePow, Nat.reduceMod, Nat.reduceDiv, Nat.reduceAdd, Nat.reduceMul, Nat.reduceSub, Nat.reduceLT, Nat.reduceLeDiff, Nat.reduceEqDiff, Int.reduceAdd, Int.reduceSub, Int.reduceMul, Int.reduceLT, Int.reduceLE, Int.reduceGT, Int.reduceGE, Int.reduceEq, Int.reduceNe, Int.reducePow, Int.reduceToNat, Int.reduceDiv, Int.reduceMod, reduceCtorEq, Int.cast_ofNat_Int, if_true, if_false, Bool.false_eq_true, Option.some.injEq, Option.map_some, Option.bind_some, Option.map_none, Option.bind_none, Option.join_some, Option.isSome_some, Option.isSome_none, List.length_range, List.map_cons, List.map_nil, List.length_cons, List.length_nil, List.length_map, List.set_cons_zero, List.set_cons_succ, List.mem_cons, List.not_mem_nil, List.all_cons, List.all_nil, List.any_cons, List.any_nil, Bool.and_eq_true, Bool.and_true, Bool.true_and, Bool.and_false, Bool.false_and, Bool.or_false, Bool.false_or, Bool.or_true, Bool.true_or, Bool.not_true, Bool.not_false, Bool.not_eq_true, Bool.not_eq_false', Bool.not_eq_true', decide_eq_true_eq, decide_eq_false_iff_not, decide_true, decide_false, and_true, true_and, and_false, false_and, or_true, true_or, or_false, false_or, not_true_eq_false, not_false_eq_true, eq_self, ite_self, ne_eq, Int.reduceNeg, List.cons_ne_nil, S.gc_MOST_SMALL, S.gc_LEAST_SMALL, S.gc_MOST_SIGNS, S.gc_FREE, S.gc_WALL, S.gc_MARKS, S.gc_CELL, S.gc_PRIME, S.gc_MOST_SPEED, S.gc_MANY_CELLS, S.gc_MOST_BODIES_worlds, S.gc_MOST_TICK, S.gc_MANY_SHARED, S.gc_MOST_SAID, S.gc_LINE_END, S.gc_LETTERS, S.gc_BLANK, S.gc_MOST_ROWS, S.gc_MOST_SIDE, S.gc_MOST_PULL, S.gc_MOST_PLAYERS, S.gc_MOST_KINDS, S.gc_MOST_BIRTHS, S.gm_Screen_show, S.gm_Screen_shown, S.gm_Screen_picture, S.gi_Ground, S.gi_Kind, S.gi_Game, S.gi_World, S.gi_Screen, S.gf_Ground, S.gf_Kind, S.gf_Game, S.gf_World, S.gf_Screen, S.gs_NoWorld_NoWorld, S.gcls, S.N_Ground, S.N_rows, S.N_wide, S.N_high, S.N_Kind, S.N_solid, S.N_pull, S.N_program, S.N_Game, S.N_players, S.N_ground, S.N_kinds, S.N_births, S.N_World, S.N_tick, S.N_seed, S.N_shared, S.N_count, S.N_bodies, S.N_said, S.N_Screen, S.N_played, S.N_drawing, S.N_times, S.N_NoWorld, S.N_show, S.N_shown, S.N_picture, S.N_Program, S.w_is_integer, S.w_is_within, S.w_is_sized, S.w_is_sized_non, S.allF_map, S.anyF_map, S.w_is_small, S.w_is_seed, S.w_is_speed, S.w_are_small, S.w_law_sign, S.w_law_spots, S.w_law_common, S.w_law_program_of, S.cut14, S.cut_3, S.cut_4, S.cut_7, S.cut4_, S.cut1_, S.cut_n, S.w_is_body_non])
local macro_rules | `(tactic| walk_at "wp*") => `(tactic| try simp -dsimp -implicitDefEqProofs only [↓Wp.u_var, ↓Wp.u_cst, ↓Wp.u_glb, ↓Wp.u_fld, ↓Wp.u_bin, ↓Wp.u_neg, ↓Wp.u_cmp, ↓Wp.u_chn, ↓Wp.u_isN, ↓Wp.u_notN, ↓Wp.u_isB, ↓Wp.u_and, ↓Wp.u_or, ↓Wp.u_not, ↓Wp.u_ite, ↓Wp.u_tup, ↓Wp.u_lst, ↓Wp.u_dct0, ↓Wp.u_dct1, ↓Wp.u_call, ↓Wp.u_make, ↓Wp.u_meth, ↓Wp.u_bi, ↓Wp.u_bm, ↓Wp.u_idx, ↓Wp.u_sl, ↓Wp.u_rev, ↓Wp.u_lc, ↓Wp.u_frz, ↓Wp.u_nil, ↓Wp.u_cons, ↓Wp.u_tval, ↓Wp.u_tand, ↓Wp.u_tor, ↓Wp.u_tnot, ↓Wp.u_tn, ↓Wp.u_ts, ↓Wp.u_on, ↓Wp.u_os, ↓Wp.u_of, ↓Wp.u_rng1, ↓Wp.u_rng2, ↓Wp.u_rng3, ↓Wp.u_enum, ↓Wp.u_zip, ↓Wp.u_tname, ↓Wp.u_tfld, ↓Wp.u_tidx, ↓Wp.u_ttup, ↓Wp.u_tnil, ↓Wp.u_tcons, ↓Wp.u_set, ↓Wp.u_par, ↓Wp.u_aug, ↓Wp.u_ife, ↓Wp.u_for, ↓Wp.u_whil, ↓Wp.u_ret, ↓Wp.u_retN, ↓Wp.u_raise, ↓Wp.u_exp, ↓Wp.u_pass, ↓Wp.u_brk, ↓Wp.u_cnt, ↓Wp.u_never, ↓Wp.u_try, ↓Wp.u_snil, ↓Wp.u_scons, ↓Wp.u_augf, ↓Wp.u_turnL, ↓Wp.u_turnF, ↓Wp.opt_un, ↓reduceIte, Wp.optH_some, Wp.optH_none, Wp.u_finF, Wp.u_finL, Wp.u_finD, Wp.vr, Wp.bO, Wp.iO, Wp.nonD, Wp.blD, Lw.wipeE, Wp.parE, Wp.deref_non, Wp.deref_bl, Wp.deref_int, Wp.deref_str, Wp.deref_tup, Wp.deref_lst, Wp.deref_ins, Wp.deref_dct, Wp.deref_scr, Wp.deref_loc, Lw.truthF, Lw.lenF, Lw.keyF, Lw.getK, Lw.putK, Lw.idxF, Wp.idx_str, Lw.slF, Lw.revF, Lw.addF, Lw.subF, Wp.mulF_ok, Wp.mulF_r, Wp.mulF_l, Wp.mulF_lst, Wp.mulF_tup, Wp.mulF_str, Lw.fdivF, Lw.modF, Lw.powF, Lw.binF, Lw.augF, Lw.eqF, Lw.flatD, Lw.eqFl, Lw.inF, Lw.intsF, Lw.cmpF, Lw.isiF, Lw.lookF, Lw.fldF, Lw.clsF, Lw.mthF, Lw.strsF, Lw.blsF, Lw.one, Lw.two, Lw.tupleF, Lw.listF, Lw.intF, L2.ixN, Lw.min2F, Lw.max2F, Lw.maxlF, Lw.minlF, Lw.sumF, Lw.strF, Lw.absF, Lw.lrngF, Lw.isisF, Lw.biF, Lw.splitF, Lw.upperF, Lw.getF, Lw.bmF, Lw.extF, Lw.popF, Lw.bmM, Lw.argF, Lw.lstAt, Lw.itemsF, Lw.gdOf, Lw.frzF, Lw.setF, Lw.putFld, Lw.putIdx, Lw.bmT, Lw.bmW, Lw.tgsFit, Wp.dropE_nil, Wp.dropE_cons, Lw.delL, Wp.atI_zero, Wp.atI_pos, Wp.atI_last, Lw.Mem.set_same, Lw.Mem.set_set, Lw.Mem.set_ne, Lw.Mem.del_set, Wp.rngL_length, Wp.join_signs, Wp.mem_swap, Wp.sizeLine_val, Wp.one_inj, List.cons_append, List.nil_append, Int.reduceAbs, Nat.reducePow, Nat.reduceMod, Nat.reduceDiv, Nat.reduceAdd, Nat.reduceMul, Nat.reduceSub, Nat.reduceLT, Nat.reduceLeDiff, Nat.reduceEqDiff, Int.reduceAdd, Int.reduceSub, Int.reduceMul, Int.reduceLT, Int.reduceLE, Int.reduceGT, Int.reduceGE, Int.reduceEq, Int.reduceNe, Int.reducePow, Int.reduceToNat, Int.reduceDiv, Int.reduceMod, reduceCtorEq, Int.cast_ofNat_Int, if_true, if_false, Bool.false_eq_true, Option.some.injEq, Option.map_some, Option.bind_some, Option.map_none, Option.bind_none, Option.join_some, Option.isSome_some, Option.isSome_none, List.length_range, List.map_cons, List.map_nil, List.length_cons, List.length_nil, List.length_map, List.set_cons_zero, List.set_cons_succ, List.mem_cons, List.not_mem_nil, List.all_cons, List.all_nil, List.any_cons, List.any_nil, Bool.and_eq_true, Bool.and_true, Bool.true_and, Bool.and_false, Bool.false_and, Bool.or_false, Bool.false_or, Bool.or_true, Bool.true_or, Bool.not_true, Bool.not_false, Bool.not_eq_true, Bool.not_eq_false', Bool.not_eq_true', decide_eq_true_eq, decide_eq_false_iff_not, decide_true, decide_false, and_true, true_and, and_false, false_and, or_true, true_or, or_false, false_or, not_true_eq_false, not_false_eq_true, eq_self, ite_self, ne_eq, Int.reduceNeg, List.cons_ne_nil, S.gc_MOST_SMALL, S.gc_LEAST_SMALL, S.gc_MOST_SIGNS, S.gc_FREE, S.gc_WALL, S.gc_MARKS, S.gc_CELL, S.gc_PRIME, S.gc_MOST_SPEED, S.gc_MANY_CELLS, S.gc_MOST_BODIES_worlds, S.gc_MOST_TICK, S.gc_MANY_SHARED, S.gc_MOST_SAID, S.gc_LINE_END, S.gc_LETTERS, S.gc_BLANK, S.gc_MOST_ROWS, S.gc_MOST_SIDE, S.gc_MOST_PULL, S.gc_MOST_PLAYERS, S.gc_MOST_KINDS, S.gc_MOST_BIRTHS, S.gm_Screen_show, S.gm_Screen_shown, S.gm_Screen_picture, S.gi_Ground, S.gi_Kind, S.gi_Game, S.gi_World, S.gi_Screen, S.gf_Ground, S.gf_Kind, S.gf_Game, S.gf_World, S.gf_Screen, S.gs_NoWorld_NoWorld, S.gcls, S.N_Ground, S.N_rows, S.N_wide, S.N_high, S.N_Kind, S.N_solid, S.N_pull, S.N_program, S.N_Game, S.N_players, S.N_ground, S.N_kinds, S.N_births, S.N_World, S.N_tick, S.N_seed, S.N_shared, S.N_count, S.N_bodies, S.N_said, S.N_Screen, S.N_played, S.N_drawing, S.N_times, S.N_NoWorld, S.N_show, S.N_shown, S.N_picture, S.N_Program, S.w_is_integer, S.w_is_within, S.w_is_sized, S.w_is_sized_non, S.allF_map, S.anyF_map, S.w_is_small, S.w_is_seed, S.w_is_speed, S.w_are_small, S.w_law_sign, S.w_law_spots, S.w_law_common, S.w_law_program_of, S.cut14, S.cut_3, S.cut_4, S.cut_7, S.cut4_, S.cut1_, S.cut_n, S.w_is_body_non, *])
section
variable {n : Nat} {M : Mem} {Q : DK1} {X : XK1} {hq : Hid Q} {hx hx' : Hid X}
structure RsOK (rs : List (List Nat)) : Prop where
  n : rs.length ≤ 100
  l : ∀ r ∈ rs, r.length ≤ 1000
theorem RsOK.sum {rs : List (List Nat)} (h : RsOK rs) : ((rs.map (· ++ [10])).map (·.length)).sum ≤ 16777216 := by
  have h1 := sum_len (xs := rs.map (· ++ [10])) (b := 1001) (by
    intro x hx
    obtain ⟨r, hr, rfl⟩ := List.mem_map.mp hx
    have := h.l r hr
    simp only [List.length_append, List.length_cons, List.length_nil]
    omega)
  have h2 := h.n
  rw [List.length_map] at h1
  have h3 : rs.length * 1001 ≤ 100 * 1001 := Nat.mul_le_mul_right _ h2
  omega
theorem text_len {rs : List (List Nat)} (h : RsOK rs) : (textF rs).length ≤ 16777216 := by
  have := h.sum
  unfold textF
  rw [List.length_flatten]
  exact this
theorem join_text {rs : List (List Nat)} (h : RsOK rs) : joinF (.str []) (.lst (rs.map fun r => D.str (r ++ [10]))) = some (.str (textF rs)) := by
  have := join_flat (h.sum)
  rw [List.map_map] at this
  exact this
theorem w_text_tup {rs : List (List Nat)} (h : RsOK rs) : callH (wpF gg fs (n + 1)) F_text_of_rows [.tup (rs.map .str)] M Q X hq hx = Q (.str (textF rs)) M := by
  have e := join_text h
  rw [go_text_of_rows]
  walk_at "wp*"
  rw [lcH_mapT (fun r => .str (r ++ [10])) trivial (by have := h.n; omega) fun r hr k => ?_]
  · walk_at "wp*"
  · have := h.l r hr
    have : r.length ≤ 16777215 := by omega
    walk_at "wp*"
theorem w_text_lst {rs : List (List Nat)} (h : RsOK rs) : callH (wpF gg fs (n + 1)) F_text_of_rows [.lst (rs.map .str)] M Q X hq hx = Q (.str (textF rs)) M := by
  have e := join_text h
  rw [go_text_of_rows]
  walk_at "wp*"
  rw [lcH_mapT (fun r => .str (r ++ [10])) trivial (by have := h.n; omega) fun r hr k => ?_]
  · walk_at "wp*"
  · have := h.l r hr
    have : r.length ≤ 16777215 := by omega
    walk_at "wp*"
theorem w_closed {rs : List (List Nat)} (h : RsOK rs) : callH (wpF gg fs (n + 1)) F_law_closed [.tup (rs.map .str)] M Q X hq hx = Q (.str (textF rs)) M := by
  have e := join_text h
  rw [go_law_closed]
  walk_at "wp*"
  rw [lcH_mapT (fun r => .str (r ++ [10])) trivial (by have := h.n; omega) fun r hr k => ?_]
  · walk_at "wp*"
  · have := h.l r hr
    have : r.length ≤ 16777215 := by omega
    walk_at "wp*"
theorem Gr.rs (r : Gr) : RsOK r.rows := ⟨by have := r.h; omega, fun x hx => by rw [r.ok.len x hx]; have := r.w; omega⟩
theorem w_ground_picture {r : Gr} {ks : List Kd} {pl : Int} : callH (wpF gg fs (n + 2)) F_ground_picture [gameI r ks pl] M Q X hq hx = Q (.str (textF r.rows)) M := by
  rw [go_ground_picture]
  walk_at "wp"
  rw [w_text_tup r.rs]
  walk_at "wp"
theorem letters_at {k : Nat} (h : k < 8) : L2.atI [97, 98, 99, 100, 101, 102, 103, 104] (k : Int) = some (97 + k) := by
  rcases k with _ | _ | _ | _ | _ | _ | _ | _ | k <;> first | rfl | omega
theorem capitals_at {k : Nat} (h : k < 8) : L2.atI [65, 66, 67, 68, 69, 70, 71, 72] (k : Int) = some (65 + k) := by
  rcases k with _ | _ | _ | _ | _ | _ | _ | _ | k <;> first | rfl | omega
theorem w_letter {b : Bd} (h : b.p.k < 8) : callH (wpF gg fs (n + 1)) F_letter_of_body [bdD b] M Q X hq hx = Q (.str [letF b]) M := by
  have e := letters_at h
  rw [go_letter_of_body]
  by_cases h1 : b.own < 0
  · have : letF b = 97 + b.p.k := by simp [letF, h1]
    rw [this]
    walk_at "wp*"
  · have : letF b = 65 + b.p.k := by simp [letF, h1]
    rw [this]
    have a1 : 97 ≤ 97 + b.p.k := by omega
    have a2 : 97 + b.p.k ≤ 122 := by omega
    have a3 : 97 + b.p.k - 32 = 65 + b.p.k := by omega
    clear this
    walk_at "wp*"
theorem w_shown_sign {ks : List Kd} {bs : List Bd} {r : Gr} {y x : Int} {c : Nat} (hb : ∀ b ∈ bs, b.p.k < ks.length) (hk8 : ks.length ≤ 8) (hc : c = groundG r y x) (k : Q (.str [seenG r ks bs y x]) M) :
    callH (wpF gg fs (n + 1)) F_law_shown_sign [.lst (ks.map kdD), .tup (bs.map bdD), .int y, .int x, .str [c]] M Q X hq hx := by
  subst hc
  rw [go_law_shown_sign]
  walk_at "wp"
  refine forH_inv (fun rest e m => ∃ bs2 o5, rest = bs2.map bdD ∧ e = [some (.lst (ks.map kdD)), some (.tup (bs.map bdD)), some (.int y), some (.int x), some (.str [groundG r y x]), o5] ∧ m = M ∧ (∀ b ∈ bs2, b.p.k < ks.length) ∧ seenG r ks bs2 y x = seenG r ks bs y x) ⟨bs, none, rfl, rfl, rfl, hb, rfl⟩ ?_ ?_
  · rintro d rest e m kk ⟨bs2, o5, hr, rfl, rfl, hb2, hs⟩ kn
    refine ⟨trivial, ?_⟩
    obtain ⟨b, bs3, rfl, rfl, rfl⟩ : ∃ b bs3, bs2 = b :: bs3 ∧ bdD b = d ∧ bs3.map bdD = rest := by
      cases bs2 with
      | nil => cases hr
      | cons b bs3 =>
        injection hr with q1 q2
        exact ⟨b, bs3, rfl, q1.symm, q2.symm⟩
    have hbk := hb2 b List.mem_cons_self
    have e1 := kd_at hbk
    have e2 := letters_at (k := b.p.k) (by omega)
    have e3 := capitals_at (k := b.p.k) (by omega)
    have hcov : covF ks y x b = (decide (b.p.x < 8 * x + 8) && (decide (8 * x < b.p.x + (kat ks b.p.k).w) && (decide (b.p.y < 8 * y + 8) && decide (8 * y < b.p.y + (kat ks b.p.k).h)))) := rfl
    have hno : covF ks y x b = false → kk [some (.lst (ks.map kdD)), some (.tup (bs.map bdD)), some (.int y), some (.int x), some (.str [groundG r y x]), some (bdD b)] m := fun q =>
      kn _ _ ⟨bs3, _, rfl, rfl, rfl, fun z hz => hb2 z (List.mem_cons_of_mem _ hz), by
        rw [← hs]
        unfold seenG
        rw [List.find?_cons, q]⟩
    have hyes : covF ks y x b = true → Q (.str [letF b]) m := fun q => by
      have : seenG r ks (b :: bs3) y x = letF b := by
        unfold seenG
        rw [List.find?_cons, q]
      rw [← hs, this] at k
      exact k
    clear kn k hs hr hb2 hb
    by_cases h1 : b.p.x < 8 * x + 8
    · by_cases h2 : 8 * x < b.p.x + (kat ks b.p.k).w
      · by_cases h3 : b.p.y < 8 * y + 8
        · by_cases h4 : 8 * y < b.p.y + (kat ks b.p.k).h
          · have hyes := hyes (by simp [hcov, h1, h2, h3, h4])
            by_cases h5 : b.own < 0
            · have h6 : ¬ 0 ≤ b.own := by omega
              have : letF b = 97 + b.p.k := by simp [letF, h5]
              rw [this] at hyes
              clear hno this hcov
              walk_at "wp*"
            · have h6 : 0 ≤ b.own := by omega
              have : letF b = 65 + b.p.k := by simp [letF, h5]
              rw [this] at hyes
              clear hno this hcov
              walk_at "wp*"
          · have hno := hno (by simp [hcov, h4])
            clear hyes hcov
            walk_at "wp*"
        · have hno := hno (by simp [hcov, h3])
          clear hyes hcov
          walk_at "wp*"
      · have hno := hno (by simp [hcov, h2])
        clear hyes hcov
        walk_at "wp*"
    · have hno := hno (by simp [hcov, h1])
      clear hyes hcov
      walk_at "wp*"
  · rintro e m ⟨bs2, o5, hr, rfl, rfl, hb2, hs⟩
    have : bs2 = [] := by
      cases bs2 with
      | nil => rfl
      | cons b bs3 => cases hr
    subst this
    refine ⟨trivial, ?_⟩
    rw [← hs] at k
    walk_at "wp"
    exact k
theorem grid_rs {W H : Nat} {G : Gd} (h1 : H ≤ 100) (h2 : W ≤ 1000) : RsOK (gridR W H G) := ⟨by rw [gridR_len]; exact h1, fun r hr => by rw [gridR_rowlen r hr]; exact h2⟩
theorem take_text {W H : Nat} {G : Gd} {y : Nat} (h : y < H) : textF ((gridR W H G).take (y + 1)) = textF ((gridR W H G).take y) ++ (((List.range W).map fun x : Nat => G y x) ++ [10]) := by
  rw [List.take_add_one, gridR_row h]
  exact textF_snoc
theorem take_len {W H : Nat} {G : Gd} {y : Nat} (h : y ≤ H) : (textF ((gridR W H G).take y)).length = y * (W + 1) := by
  rw [textF_len (W := W) fun r hr => gridR_rowlen r (List.mem_of_mem_take hr), List.length_take, gridR_len, Nat.min_eq_left h]
theorem small_mul {a b : Nat} (h1 : a ≤ 8) (h2 : b ≤ 13) : a * b ≤ 104 := Nat.mul_le_mul h1 h2
theorem w_shown {ks : List Kd} {bs : List Bd} {r : Gr} (hb : ∀ b ∈ bs, b.p.k < ks.length) (hk8 : ks.length ≤ 8) (k : Q (.str (textF (gridR r.W r.rows.length (seenG r ks bs)))) M) :
    callH (wpF gg fs (n + 2)) F_law_shown [r.d, .lst (ks.map kdD), .tup (bs.map bdD)] M Q X hq hx := by
  obtain ⟨s0, h0, _, l0, e0⟩ := r.row (y := 0) (by omega) (by have := r.h; omega)
  have bw := r.w
  have bh := r.h
  have b0 : s0.length ≤ 16777216 := by omega
  have b1 : r.W ≤ 16777216 := by omega
  have r1 : -4611686018427387904 ≤ (r.rows.length : Int) := by omega
  have r2 : (r.rows.length : Int) < 4611686018427387904 := by omega
  have r3 : -4611686018427387904 ≤ (r.W : Int) := by omega
  have r4 : (r.W : Int) < 4611686018427387904 := by omega
  clear h0
  rw [go_law_shown]
  walk_at "wp*"
  refine forH_rng (fun y e m => ∃ o4 o5, e = [some r.d, some (.lst (ks.map kdD)), some (.tup (bs.map bdD)), some (.str (textF ((gridR r.W r.rows.length (seenG r ks bs)).take y.toNat))), o4, o5] ∧ m = M) (by omega) ⟨none, none, rfl, rfl⟩ (fun _ => trivial) ?_ ?_
  · rintro y e m kk y1 y2 ⟨o4, o5, rfl, rfl⟩ kn
    obtain ⟨yn, rfl⟩ : ∃ yn : Nat, y = yn := ⟨y.toNat, by omega⟩
    have hyn : yn < r.rows.length := by omega
    have hm := small_mul (a := yn) (b := r.W + 1) (by omega) (by omega)
    have hlen := take_len (W := r.W) (G := seenG r ks bs) (Nat.le_of_lt hyn)
    have hnext := take_text (W := r.W) (G := seenG r ks bs) hyn
    simp only [Int.toNat_natCast] at kn ⊢
    rw [show ((yn : Int) + 1).toNat = yn + 1 by omega, hnext] at kn
    generalize textF ((gridR r.W r.rows.length (seenG r ks bs)).take yn) = acc at kn hlen ⊢
    clear k hnext r1 r2
    walk_at "wp*"
    refine forH_rng (fun x e m2 => ∃ o5, e = [some r.d, some (.lst (ks.map kdD)), some (.tup (bs.map bdD)), some (.str (acc ++ (List.range x.toNat).map fun x : Nat => seenG r ks bs yn x)), some (.int yn), o5] ∧ m2 = m) (by omega) ⟨o5, by simp, rfl⟩ (fun _ => trivial) ?_ ?_
    · rintro x e m2 k2 x1 x2 ⟨o6, rfl, rfl⟩ kn2
      obtain ⟨xn, rfl⟩ : ∃ xn : Nat, x = xn := ⟨x.toNat, by omega⟩
      obtain ⟨s, hs, ea, ls, es⟩ := r.row (y := (yn : Int)) (by omega) (by omega)
      have ec := Gr.col (s := s) (x := (xn : Int)) (by omega) (by omega)
      have b2 : s.length ≤ 16777216 := by omega
      have hG : s.getD (xn : Int).toNat 35 = groundG r yn xn := by
        unfold groundG Gr.at
        rw [ea]
      simp only [Int.toNat_natCast] at kn2 hG ⊢
      have hl2 : (acc ++ (List.range xn).map fun x : Nat => seenG r ks bs yn x).length + 1 ≤ 16777216 := by
        simp only [List.length_append, List.length_map, List.length_range]
        omega
      rw [show ((xn : Int) + 1).toNat = xn + 1 by omega, List.range_succ, List.map_append, ← List.append_assoc] at kn2
      generalize (acc ++ (List.range xn).map fun x : Nat => seenG r ks bs yn x) = cur at kn2 hl2 ⊢
      clear kn hs ls hlen hm
      walk_at "wp*"
      refine w_shown_sign hb hk8 hG ?_
      walk_at "wp*"
      exact kn2 _ _ ⟨_, rfl, rfl⟩
    · rintro e m2 ⟨o6, rfl, rfl⟩
      have kn := kn _ _ ⟨some (.int yn), o6, rfl, rfl⟩
      simp only [Int.toNat_natCast, ← List.append_assoc] at kn ⊢
      have hl2 : (acc ++ (List.range r.W).map fun x : Nat => seenG r ks bs yn x).length + 1 ≤ 16777216 := by
        simp only [List.length_append, List.length_map, List.length_range]
        omega
      generalize (acc ++ (List.range r.W).map fun x : Nat => seenG r ks bs yn x) = cur at kn hl2 ⊢
      walk_at "wp*"
  · rintro e m ⟨o4, o5, rfl, rfl⟩
    rw [List.take_of_length_le (by rw [gridR_len]; omega)]
    walk_at "wp"
    exact k
def rowD (r : List Nat) : List D := r.map fun c => D.str [c]
theorem rngI_cons {a b : Int} (h : a < b) : rngI a b = a :: rngI (a + 1) b := by
  unfold rngI
  obtain ⟨n, hn⟩ : ∃ n : Nat, (b - a).toNat = n + 1 := ⟨(b - a).toNat - 1, by omega⟩
  rw [hn, show (b - (a + 1)).toNat = n by omega, List.range_succ_eq_map, List.map_cons, List.map_map]
  congr 1
  · simp
  · apply List.map_congr_left
    intro i _
    show a + ((i + 1 : Nat) : Int) = a + 1 + (i : Int)
    omega
theorem rngI_nil {a b : Int} (h : b ≤ a) : rngI a b = [] := by
  unfold rngI
  rw [show (b - a).toNat = 0 by omega]
  rfl
/-- a sign is put into the rows -/
theorem put_cell {M : Mem} {as : List Addr} {W H : Nat} {G : Gd} {y x : Int} {c : Nat} (hn : as.Nodup) (hal : as.length = H) (y0 : 0 ≤ y) (y1 : y < H) (x0 : 0 ≤ x) (x1 : x < W) :
    ∃ a row, L2.atI (as.map D.loc) y = some (.loc a) ∧ setL M as ((gridR W H G).map rowD) a = some (.lst row) ∧ x < row.length ∧
      (setL M as ((gridR W H G).map rowD)).set a (.lst (row.set x.toNat (.str [c]))) = setL M as ((gridR W H (updG G y x c)).map rowD) := by
  obtain ⟨yn, rfl⟩ : ∃ n : Nat, y = n := ⟨y.toNat, by omega⟩
  obtain ⟨xn, rfl⟩ : ∃ n : Nat, x = n := ⟨x.toNat, by omega⟩
  have hy : yn < H := by omega
  have hx : xn < W := by omega
  obtain ⟨a, ha⟩ : ∃ a, as[yn]? = some a := ⟨as[yn], List.getElem?_eq_getElem (by omega)⟩
  have hr : ((gridR W H G).map rowD)[yn]? = some (rowD ((List.range W).map fun x : Nat => G yn x)) := by
    rw [List.getElem?_map, gridR_row hy]
    rfl
  refine ⟨a, _, by rw [atI_nat, List.getElem?_map, ha]; rfl, setL_at (M := M) hn ha hr, by simp [rowD]; omega, ?_⟩
  rw [Int.toNat_natCast, setL_set hn (by rw [List.length_map, gridR_len, hal]) ha]
  congr 1
  rw [← gridR_set hy hx, List.map_set]
  congr 1
  simp [rowD, List.map_set]
theorem w_picture_of {ks : List Kd} {bs : List Bd} {r : Gr} {pl t sd c : Int} {sh sa : D} (hks : ∀ k ∈ ks, KdOK k) (hk8 : ks.length ≤ 8) (hb : PsOK r ks (bs.map Bd.p)) (hl : bs.length ≤ 100) (k : Q (.str (textF (gridR r.W r.rows.length (seenG r ks bs)))) M) :
    callH (wpF gg fs (n + 2)) F_picture_of [gameI r ks pl, wdL [.int t, .int sd, sh, .int c, .tup (bs.map bdD), sa]] M Q X hq hx := by
  have bw := r.w
  have bh := r.h
  rw [go_picture_of]
  walk_at "wp"
  refine lcH_acc (fun rest acc m => ∃ as : List Addr, acc = as.map .loc ∧ as.Nodup ∧ (∀ a ∈ as, M a = none) ∧ as.length + rest.length = r.rows.length ∧ rest = (r.rows.drop as.length).map .str ∧ m = setL M as ((r.rows.take as.length).map rowD))
    ⟨[], rfl, .nil, by simp, by simp, rfl, rfl⟩ (fun _ _ _ _ => trivial) (by simp; omega) ?_ ?_
  · rintro d rest acc m kk ⟨as, rfl, hn, hf, hlen, hr, rfl⟩ kn
    simp only [List.length_cons] at hlen
    have hi : as.length < r.rows.length := by omega
    rw [List.drop_eq_getElem_cons hi, List.map_cons] at hr
    injection hr with hd hr
    subst hd hr
    have hrow := r.ok.len _ (List.getElem_mem hi)
    have b1 : r.rows[as.length].length ≤ 16777216 := by omega
    clear hrow
    walk_at "wp*"
    refine new_i fun a ha => ?_
    obtain ⟨h1, h2⟩ := setL_none (by simp; omega) ha
    refine kn _ _ ⟨as ++ [a], by simp, ?_, ?_, by simp only [List.length_append, List.length_cons, List.length_nil]; simp only [List.length_map] at hlen ⊢; omega, by simp, ?_⟩
    · rw [List.nodup_append]
      exact ⟨hn, by simp, by
        intro x hx y hy
        rw [List.mem_singleton.mp hy]
        rintro rfl
        exact h1 hx⟩
    · intro x hx
      rcases List.mem_append.mp hx with hx | hx
      · exact hf x hx
      · rw [List.mem_singleton.mp hx]
        exact h2
    · rw [show D.str = D.str from rfl, List.length_append, List.length_cons, List.length_nil, Nat.zero_add, List.take_add_one, List.getElem?_eq_getElem hi, Option.toList_some, List.map_append]
      exact setL_snoc (by simp; omega) h1
  · rintro acc m ⟨as, rfl, hn, hf, hlen, hr, rfl⟩
    have hal : as.length = r.rows.length := by simpa using hlen
    rw [hal, List.take_length]
    clear hlen hr
    have hg0 := grid_ground r
    rw [hg0]
    clear hg0
    have hal2 : as.length = ((gridR r.W r.rows.length (groundG r)).map rowD).length := by rw [List.length_map, gridR_len, hal]
    walk_at "wp"
    rw [← List.map_reverse]
    refine forH_inv (fun rest e m => ∃ bs2 G o3 o4 o5 o6 o7, rest = bs2.map bdD ∧ e = [some (gameI r ks pl), some (wdL [.int t, .int sd, sh, .int c, .tup (bs.map bdD), sa]), some (.lst (as.map .loc)), o3, o4, o5, o6, o7] ∧
        m = setL M as ((gridR r.W r.rows.length G).map rowD) ∧ bs2.foldl (paintB ks) G = bs.reverse.foldl (paintB ks) (groundG r) ∧ ∀ b ∈ bs2, b ∈ bs)
      ⟨bs.reverse, groundG r, none, none, none, none, none, rfl, rfl, rfl, rfl, fun b hb => List.mem_reverse.mp hb⟩ ?_ ?_
    · rintro d rest e m kk ⟨bs2, G, o3, o4, o5, o6, o7, hr, rfl, rfl, hfo, hbs⟩ kn
      refine ⟨trivial, ?_⟩
      obtain ⟨b, bs3, rfl, rfl, rfl⟩ : ∃ b bs3, bs2 = b :: bs3 ∧ bdD b = d ∧ bs3.map bdD = rest := by
        cases bs2 with
        | nil => cases hr
        | cons b bs3 =>
          injection hr with q1 q2
          exact ⟨b, bs3, rfl, q1.symm, q2.symm⟩
      have hbm := hbs b List.mem_cons_self
      have hbk : b.p.k < ks.length := hb.k _ (List.mem_map.mpr ⟨b, hbm, rfl⟩)
      have e1 := kdI_at hbk
      have ok := kat_ok hks b.p.k
      obtain ⟨i, hi⟩ := List.getElem?_of_mem hbm
      have hcl := hb.c i b.p (by rw [List.getElem?_map, hi]; rfl)
      unfold clearF at hcl
      rw [Bool.and_eq_true] at hcl
      have ce := cells_of ok.w.1 ok.h.1 hcl.1
      obtain ⟨cx, cx2⟩ := ce.cx
      obtain ⟨cy, cy2⟩ := ce.cy
      obtain ⟨ow1, ow2⟩ := ok.w
      obtain ⟨oh1, oh2⟩ := ok.h
      have hbs3 := fun z hz => hbs z (List.mem_cons_of_mem b hz)
      clear hcl ce hi hr hbs ok
      have s1 := fun (M : Mem) (Q : DK1) (X : XK1) (hq : Hid Q) (hx : Hid X) => w_spanned (n := n) (M := M) (Q := Q) (X := X) (hq := hq) (hx := hx) (b := b.p.y) cy (by omega) oh1 oh2
      have s2 := fun (M : Mem) (Q : DK1) (X : XK1) (hq : Hid Q) (hx : Hid X) => w_spanned (n := n) (M := M) (Q := Q) (X := X) (hq := hq) (hx := hx) (b := b.p.x) cx (by omega) ow1 ow2
      have s3 := fun (M : Mem) (Q : DK1) (X : XK1) (hq : Hid Q) (hx : Hid X) => w_letter (n := n) (M := M) (Q := Q) (X := X) (hq := hq) (hx := hx) (b := b) (by omega)
      clear hb hl hks k
      walk_at "wp"
      simp only [e1]
      walk_at "wp"
      simp only [s1]
      walk_at "wp"
      have hst : paintRows (letF b) (rngI (b.p.y / 8) ((b.p.y + (kat ks b.p.k).h - 1) / 8 + 1)) (xsOf ks b) G = paintB ks G b := rfl
      generalize hT : paintB ks G b = T at hst
      refine forH_rng (fun y e m2 => ∃ G2 o6 o7 o8, e = [some (gameI r ks pl), some (wdL [.int t, .int sd, sh, .int c, .tup (bs.map bdD), sa]), some (.lst (as.map .loc)), some (bdD b), some (kdI (kat ks b.p.k)), o6, o7, o8] ∧
        m2 = setL M as ((gridR r.W r.rows.length G2).map rowD) ∧ paintRows (letF b) (rngI y ((b.p.y + (kat ks b.p.k).h - 1) / 8 + 1)) (xsOf ks b) G2 = T)
        (by omega) ⟨G, _, _, _, rfl, rfl, hst⟩ (fun _ => trivial) ?_ ?_
      · rintro y e m2 k2 y1 y2 ⟨G2, p6, p7, p8, rfl, rfl, hpr⟩ kn2
        rw [rngI_cons y2] at hpr
        change paintRows (letF b) (rngI (y + 1) _) (xsOf ks b) (paintRow (letF b) y (xsOf ks b) G2) = T at hpr
        clear kn s1
        walk_at "wp"
        simp only [s2]
        walk_at "wp"
        have hst2 : paintRow (letF b) y (rngI (b.p.x / 8) ((b.p.x + (kat ks b.p.k).w - 1) / 8 + 1)) G2 = paintRow (letF b) y (xsOf ks b) G2 := rfl
        generalize paintRow (letF b) y (xsOf ks b) G2 = T2 at hst2 hpr
        refine forH_rng (fun x e m2 => ∃ G3 o8, e = [some (gameI r ks pl), some (wdL [.int t, .int sd, sh, .int c, .tup (bs.map bdD), sa]), some (.lst (as.map .loc)), some (bdD b), some (kdI (kat ks b.p.k)), some (.int y), p7, o8] ∧
          m2 = setL M as ((gridR r.W r.rows.length G3).map rowD) ∧ paintRow (letF b) y (rngI x ((b.p.x + (kat ks b.p.k).w - 1) / 8 + 1)) G3 = T2)
          (by omega) ⟨G2, _, rfl, rfl, hst2⟩ (fun _ => trivial) ?_ ?_
        · rintro x e m3 k3 x1 x2 ⟨G3, q8, rfl, rfl, hpr3⟩ kn3
          rw [rngI_cons x2] at hpr3
          obtain ⟨a, row, ea, er, el, ep⟩ := put_cell (M := M) (G := G3) (c := letF b) hn hal (show 0 ≤ y by omega) (show y < r.rows.length by omega) (show 0 ≤ x by omega) (show x < r.W by omega)
          clear kn2 s2
          walk_at "wp"
          simp only [s3]
          have x0 : 0 ≤ x := by omega
          have kn3 := kn3 [some (gameI r ks pl), some (wdL [.int t, .int sd, sh, .int c, .tup (bs.map bdD), sa]), some (.lst (as.map .loc)), some (bdD b), some (kdI (kat ks b.p.k)), some (.int y), p7, some (.int x)] _ ⟨_, _, rfl, rfl, hpr3⟩
          rw [← ep] at kn3
          generalize setL M as ((gridR r.W r.rows.length G3).map rowD) = m4 at er kn3 ⊢
          clear hpr3 hpr hst2 hst hT ep hfo cx cx2 cy cy2 hbm e1
          walk_at "wp*"
        · rintro e m3 ⟨G3, q8, rfl, rfl, hpr3⟩
          rw [rngI_nil (Int.le_refl _)] at hpr3
          have hG3 : G3 = T2 := hpr3
          subst hG3
          walk_at "wp"
          exact kn2 _ _ ⟨_, _, _, _, rfl, rfl, hpr⟩
      · rintro e m2 ⟨G2, p6, p7, p8, rfl, rfl, hpr⟩
        rw [rngI_nil (Int.le_refl _)] at hpr
        have hG2 : G2 = T := hpr
        subst hG2
        walk_at "wp"
        refine kn _ _ ⟨bs3, _, _, _, _, _, _, rfl, rfl, rfl, ?_, ?_⟩
        · rw [← hfo, ← hT]
          rfl
        · exact hbs3
    · rintro e m ⟨bs2, G, o3, o4, o5, o6, o7, hr, rfl, rfl, hfo, hbs⟩
      have : bs2 = [] := by
        cases bs2 with
        | nil => rfl
        | cons b bs3 => cases hr
      subst this
      have hG : gridR r.W r.rows.length G = gridR r.W r.rows.length (seenG r ks bs) := by
        apply gridR_ext
        intro y x _ _ _ _
        rw [← paint_all bs y x, ← hfo]
        rfl
      rw [hG]
      clear hG hr hbs hfo
      refine ⟨trivial, ?_⟩
      generalize hgr : gridR r.W r.rows.length (seenG r ks bs) = gr at k ⊢
      have hgl : gr.length = r.rows.length := by rw [← hgr, gridR_len]
      have hrs : RsOK gr := by rw [← hgr]; exact grid_rs (by omega) (by omega)
      walk_at "wp"
      have ez : as.map D.loc = (as.zip gr).map fun p => D.loc p.1 := by
        rw [show (fun p : PySem.Addr × List Nat => D.loc p.1) = D.loc ∘ Prod.fst from rfl, ← List.map_map, List.map_fst_zip (by omega)]
      rw [ez, lcH_mapT (fun p => .str p.2) trivial (by rw [List.length_zip]; omega) fun p hp kq => ?_]
      · have ez2 : (as.zip gr).map (fun p => D.str p.2) = gr.map D.str := by
          rw [show (fun p : PySem.Addr × List Nat => D.str p.2) = D.str ∘ Prod.snd from rfl, ← List.map_map, List.map_snd_zip (by omega)]
        rw [ez2]
        walk_at "wp"
        rw [w_text_lst hrs, ← ez]
        walk_at "wp"
        rw [setL_del hf]
        exact k
      · obtain ⟨j, hj⟩ := List.getElem?_of_mem hp
        rw [List.getElem?_zip_eq_some] at hj
        have hat : setL M as (gr.map rowD) p.1 = some (.lst (rowD p.2)) := setL_at hn hj.1 (by rw [List.getElem?_map, hj.2]; rfl)
        have b3 := hrs.l p.2 (List.mem_of_getElem? hj.2)
        have b4 : p.2.length ≤ 16777216 := by omega
        replace hat : setL M as (gr.map rowD) p.1 = some (.lst (p.2.map fun c => D.str [c])) := hat
        have ej := join_signs b4
        clear hj hp k hf hn
        walk_at "wp*"
end
end S

set_option Elab.async false
set_option linter.all false
set_option maxRecDepth 100000
set_option maxHeartbeats 4000000
/-! PK: changes, by the program and by the law. -/
namespace S
open Lw Wp
open PySem (Addr)
theorem pre10 {c : Nat} {r : List Nat} : TL.pre [10] (c :: r) = decide (c = 10) := by
  by_cases h : c = 10
  · subst h
    rfl
  · rw [decide_eq_false h]
    show ([c] == [10]) = false
    exact beq_eq_false_iff_ne.mpr fun e => h (by injection e)
theorem spl_row : ∀ (r acc t : List Nat), 10 ∉ r → TL.spl [10] 0 acc (r ++ 10 :: t) = (acc ++ r) :: TL.spl [10] 0 [] t
  | [], acc, t, _ => by
    show TL.spl [10] 0 acc (10 :: t) = _
    rw [TL.spl_hit (by rw [pre10]; rfl)]
    simp
  | c :: r, acc, t, h => by
    simp only [List.mem_cons, not_or] at h
    show TL.spl [10] 0 acc (c :: (r ++ 10 :: t)) = _
    rw [TL.spl_miss (by rw [pre10]; simpa using fun e => h.1 e.symm), spl_row r (acc ++ [c]) t h.2]
    simp
theorem spl_text : ∀ rs : List (List Nat), (∀ r ∈ rs, 10 ∉ r) → TL.spl [10] 0 [] (textF rs) = rs ++ [[]]
  | [], _ => rfl
  | r :: rs, h => by
    have : textF (r :: rs) = r ++ 10 :: textF rs := by simp [textF]
    rw [this, spl_row r [] _ (h r List.mem_cons_self), spl_text rs fun x hx => h x (List.mem_cons_of_mem _ hx)]
    rfl
theorem cut_init {xs : List D} {z : D} : cutA (xs ++ [z]) none (some (-1)) = xs := by
  simp only [cutA, HT.sIx, List.length_append, List.length_cons, List.length_nil]
  rw [if_pos (by decide), show (-1 + ((xs.length + (0 + 1) : Nat) : Int)).toNat = xs.length by omega]
  simp
structure TxOK (rs : List (List Nat)) : Prop where
  n : rs.length ≤ 100
  l : ∀ r ∈ rs, r.length ≤ 1000 ∧ 10 ∉ r
theorem TxOK.rs {rs : List (List Nat)} (h : TxOK rs) : RsOK rs := ⟨h.n, fun r hr => (h.l r hr).1⟩
theorem text_len2 {rs : List (List Nat)} (h : RsOK rs) : (textF rs).length + 2 ≤ 16777216 := by
  have h1 := sum_len (xs := rs.map (· ++ [10])) (b := 1001) (by
    intro x hx
    obtain ⟨r, hr, rfl⟩ := List.mem_map.mp hx
    have := h.l r hr
    simp only [List.length_append, List.length_cons, List.length_nil]
    omega)
  have h2 := h.n
  rw [List.length_map] at h1
  have h3 : rs.length * 1001 ≤ 100 * 1001 := Nat.mul_le_mul_right _ h2
  unfold textF
  rw [List.length_flatten]
  have e : List.map List.length (rs.map (· ++ [10])) = (rs.map (· ++ [10])).map (fun x => x.length) := rfl
  rw [e]
  omega
/-- the places at which two grids differ -/
def difRow (G1 G2 : Gd) (y : Int) (W : Nat) : List D := (List.range W).filterMap fun x : Nat => if G2 y x ≠ G1 y x then some (D.tup [.int y, .int x, .str [G2 y x]]) else none
def difF (G1 G2 : Gd) (W H : Nat) : List D := (List.range H).flatMap fun y : Nat => difRow G1 G2 y W
theorem difRow_succ {G1 G2 : Gd} {y : Int} {W : Nat} : difRow G1 G2 y (W + 1) = difRow G1 G2 y W ++ (if G2 y W ≠ G1 y W then [D.tup [.int y, .int W, .str [G2 y W]]] else []) := by
  unfold difRow
  rw [List.range_succ, List.filterMap_append]
  congr 1
  by_cases h : G2 y W = G1 y W <;> simp [h]
theorem difF_succ {G1 G2 : Gd} {W H : Nat} : difF G1 G2 W (H + 1) = difF G1 G2 W H ++ difRow G1 G2 H W := by
  unfold difF
  rw [List.range_succ, List.flatMap_append]
  simp
theorem difRow_len {G1 G2 : Gd} {y : Int} {W : Nat} : (difRow G1 G2 y W).length ≤ W := by
  unfold difRow
  refine Nat.le_trans (List.length_filterMap_le _ _) ?_
  simp
theorem difF_len {G1 G2 : Gd} {W : Nat} : ∀ {H : Nat}, (difF G1 G2 W H).length ≤ H * W
  | 0 => by simp [difF]
  | H + 1 => by
    rw [difF_succ, List.length_append, Nat.succ_mul]
    have := difF_len (G1 := G1) (G2 := G2) (W := W) (H := H)
    have := difRow_len (G1 := G1) (G2 := G2) (y := H) (W := W)
    omega
theorem row_at {W H : Nat} {G1 G2 : Gd} {i : Nat} {p : (List Nat × List Nat) × Nat} (h : ((gridR W H G1).zip (gridR W H G2)).zipIdx[i]? = some p) :
    i < H ∧ p = (((List.range W).map fun x : Nat => G1 i x, (List.range W).map fun x : Nat => G2 i x), i) := by
  rw [List.getElem?_zipIdx] at h
  obtain ⟨q, hq, rfl⟩ := Option.map_eq_some_iff.mp h
  rw [List.getElem?_zip_eq_some] at hq
  have hi : i < H := by
    have := (List.getElem?_eq_some_iff.mp hq.1).1
    rwa [gridR_len] at this
  rw [gridR_row hi, gridR_row hi] at hq
  obtain ⟨h1, h2⟩ := hq
  obtain ⟨q1, q2⟩ := q
  simp only [Option.some.injEq] at h1 h2
  subst h1 h2
  exact ⟨hi, by simp⟩
theorem col_at {W : Nat} {f : Nat → Nat} {j : Nat} {p : Nat × Nat} (h : ((List.range W).map f).zipIdx[j]? = some p) : j < W ∧ p = (f j, j) := by
  rw [List.getElem?_zipIdx] at h
  obtain ⟨q, hq, rfl⟩ := Option.map_eq_some_iff.mp h
  have hj : j < W := by
    have := (List.getElem?_eq_some_iff.mp hq).1
    simpa using this
  simp [hj] at hq
  subst hq
  exact ⟨hj, by simp⟩
local macro_rules | `(tactic| walk_at "wp") => `(tactic| try simp -dsimp -implicitDefEqProofs only [↓Wp.u_var, ↓Wp.u_cst, ↓Wp.u_glb, ↓Wp.u_fld, ↓Wp.u_bin, ↓Wp.u_neg, ↓Wp.u_cmp, ↓Wp.u_chn, ↓Wp.u_isN, ↓Wp.u_notN, ↓Wp.u_isB, ↓Wp.u_and, ↓Wp.u_or, ↓Wp.u_not, ↓Wp.u_ite, ↓Wp.u_tup, ↓Wp.u_lst, ↓Wp.u_dct0, ↓Wp.u_dct1, ↓Wp.u_call, ↓Wp.u_make, ↓Wp.u_meth, ↓Wp.u_bi, ↓Wp.u_bm, ↓Wp.u_idx, ↓Wp.u_sl, ↓Wp.u_rev, ↓Wp.u_lc, ↓Wp.u_frz, ↓Wp.u_nil, ↓Wp.u_cons, ↓Wp.u_tval, ↓Wp.u_tand, ↓Wp.u_tor, ↓Wp.u_tnot, ↓Wp.u_tn, ↓Wp.u_ts, ↓Wp.u_on, ↓Wp.u_os, ↓Wp.u_of, ↓Wp.u_rng1, ↓Wp.u_rng2, ↓Wp.u_rng3, ↓Wp.u_enum, ↓Wp.u_zip, ↓Wp.u_tname, ↓Wp.u_tfld, ↓Wp.u_tidx, ↓Wp.u_ttup, ↓Wp.u_tnil, ↓Wp.u_tcons, ↓Wp.u_set, ↓Wp.u_par, ↓Wp.u_aug, ↓Wp.u_ife, ↓Wp.u_for, ↓Wp.u_whil, ↓Wp.u_ret, ↓Wp.u_retN, ↓Wp.u_raise, ↓Wp.u_exp, ↓Wp.u_pass, ↓Wp.u_brk, ↓Wp.u_cnt, ↓Wp.u_never, ↓Wp.u_try, ↓Wp.u_snil, ↓Wp.u_scons, ↓Wp.u_augf, ↓Wp.u_turnL, ↓Wp.u_turnF, ↓Wp.opt_un, ↓reduceIte, Wp.optH_some, Wp.optH_none, Wp.u_finF, Wp.u_finL, Wp.u_finD, Wp.vr, Wp.bO, Wp.iO, Wp.nonD, Wp.blD, Lw.wipeE, Wp.parE, Wp.deref_non, Wp.deref_bl, Wp.deref_int, Wp.deref_str, Wp.deref_tup, Wp.deref_lst, Wp.deref_ins, Wp.deref_dct, Wp.deref_scr, Wp.deref_loc, Lw.truthF, Lw.lenF, Lw.keyF, Lw.getK, Lw.putK, Lw.idxF, Wp.idx_str, Lw.slF, Lw.revF, Lw.addF, Lw.subF, Wp.mulF_ok, Wp.mulF_r, Wp.mulF_l, Wp.mulF_lst, Wp.mulF_tup, Wp.mulF_str, Lw.fdivF, Lw.modF, Lw.powF, Lw.binF, Lw.augF, Lw.eqF, Lw.flatD, Lw.eqFl, Lw.inF, Lw.intsF, Lw.cmpF, Lw.isiF, Lw.lookF, Lw.fldF, Lw.clsF, Lw.mthF, Lw.strsF, Lw.blsF, Lw.one, Lw.two, Lw.tupleF, Lw.listF, Lw.intF, L2.ixN, Lw.min2F, Lw.max2F, Lw.maxlF, Lw.minlF, Lw.sumF, Lw.strF, Lw.absF, Lw.lrngF, Lw.isisF, Lw.biF, Lw.splitF, Lw.upperF, Lw.getF, Lw.bmF, Lw.extF, Lw.popF, Lw.bmM, Lw.argF, Lw.lstAt, Lw.itemsF, Lw.gdOf, Lw.frzF, Lw.setF, Lw.putFld, Lw.putIdx, Lw.bmT, Lw.bmW, Lw.tgsFit, Wp.dropE_nil, Wp.dropE_cons, Lw.delL, Wp.atI_zero, Wp.atI_pos, Wp.atI_last, Lw.Mem.set_same, Lw.Mem.set_set, Lw.Mem.set_ne, Lw.Mem.del_set, Wp.rngL_length, Wp.join_signs, Wp.mem_swap, Wp.sizeLine_val, Wp.one_inj, List.cons_append, List.nil_append, Int.reduceAbs, Nat.reducePow, Nat.reduceMod, Nat.reduceDiv, Nat.reduceAdd, Nat.reduceMul, Nat.reduceSub, Nat.reduceLT, Nat.reduceLeDiff, Nat.reduceEqDiff, Int.reduceAdd, Int.reduceSub, Int.reduceMul, Int.reduceLT, Int.reduceLE, Int.reduceGT, Int.reduceGE, Int.reduceEq, Int.reduceNe, Int.reducePow, Int.reduceToNat, Int.reduceDiv, Int.reduceMod, reduceCtorEq, Int.cast_ofNat_Int, if_true, if_false, Bool.false_eq_true, Option.some.injEq, Option.map_some, Option.bind_some, Option.map_none, Option.bind_none, Option.join_some, Option.isSome_some, Option.isSome_none, List.length_range, List.map_cons, List.map_nil, List.length_cons, List.length_nil, List.length_map, List.set_cons_zero, List.set_cons_succ, List.mem_cons, List.not_mem_nil, List.all_cons, List.all_nil, List.any_cons, List.any_nil, Bool.and_eq_true, Bool.and_true, Bool.true_and, Bool.and_false, Bool.false_and, Bool.or_false, Bool.false_or, Bool.or_true, Bool.true_or, Bool.not_true, Bool.not_false, Bool.not_eq_true, Bool.not_eq_false', Bool.not_eq_true', decide_eq_true_eq, decide_eq_false_iff_not, decide_true, decide_false, and_true, true_and, and_false, false_and, or_true, true_or, or_false, false_or, not_true_eq_false, not_false_eq_true, eq_self, ite_self, ne_eq, Int.reduceNeg, List.cons_ne_nil, S.gc_MOST_SMALL, S.gc_LEAST_SMALL, S.gc_MOST_SIGNS, S.gc_FREE, S.gc_WALL, S.gc_MARKS, S.gc_CELL, S.gc_PRIME, S.gc_MOST_SPEED, S.gc_MANY_CELLS, S.gc_MOST_BODIES_worlds, S.gc_MOST_TICK, S.gc_MANY_SHARED, S.gc_MOST_SAID, S.gc_LINE_END, S.gc_LETTERS, S.gc_BLANK, S.gc_MOST_ROWS, S.gc_MOST_SIDE, S.gc_MOST_PULL, S.gc_MOST_PLAYERS, S.gc_MOST_KINDS, S.gc_MOST_BIRTHS, S.gm_Screen_show, S.gm_Screen_shown, S.gm_Screen_picture, S.gi_Ground, S.gi_Kind, S.gi_Game, S.gi_World, S.gi_Screen, S.gf_Ground, S.gf_Kind, S.gf_Game, S.gf_World, S.gf_Screen, S.gs_NoWorld_NoWorld, S.gcls, S.N_Ground, S.N_rows, S.N_wide, S.N_high, S.N_Kind, S.N_solid, S.N_pull, S.N_program, S.N_Game, S.N_players, S.N_ground, S.N_kinds, S.N_births, S.N_World, S.N_tick, S.N_seed, S.N_shared, S.N_count, S.N_bodies, S.N_said, S.N_Screen, S.N_played, S.N_drawing, S.N_times, S.N_NoWorld, S.N_show, S.N_shown, S.N_picture, S.N_Program, S.w_is_integer, S.w_is_within, S.w_is_sized, S.w_is_sized_non, S.allF_map, S.anyF_map, S.w_is_small, S.w_is_seed, S.w_is_speed, S.w_are_small, S.w_law_sign, S.w_law_spots, S.w_law_common, S.w_law_program_of, S.cut14, S.cut_3, S.cut_4, S.cut_7, S.cut4_, S.cut1_, S.cut_n, S.w_is_body_non, S.cut_init])
local macro_rules | `(tactic| walk_at "wp*") => `(tactic| try simp -dsimp -implicitDefEqProofs only [↓Wp.u_var, ↓Wp.u_cst, ↓Wp.u_glb, ↓Wp.u_fld, ↓Wp.u_bin, ↓Wp.u_neg, ↓Wp.u_cmp, ↓Wp.u_chn, ↓Wp.u_isN, ↓Wp.u_notN, ↓Wp.u_isB, ↓Wp.u_and, ↓Wp.u_or, ↓Wp.u_not, ↓Wp.u_ite, ↓Wp.u_tup, ↓Wp.u_lst, ↓Wp.u_dct0, ↓Wp.u_dct1, ↓Wp.u_call, ↓Wp.u_make, ↓Wp.u_meth, ↓Wp.u_bi, ↓Wp.u_bm, ↓Wp.u_idx, ↓Wp.u_sl, ↓Wp.u_rev, ↓Wp.u_lc, ↓Wp.u_frz, ↓Wp.u_nil, ↓Wp.u_cons, ↓Wp.u_tval, ↓Wp.u_tand, ↓Wp.u_tor, ↓Wp.u_tnot, ↓Wp.u_tn, ↓Wp.u_ts, ↓Wp.u_on, ↓Wp.u_os, ↓Wp.u_of, ↓Wp.u_rng1, ↓Wp.u_rng2, ↓Wp.u_rng3, ↓Wp.u_enum, ↓Wp.u_zip, ↓Wp.u_tname, ↓Wp.u_tfld, ↓Wp.u_tidx, ↓Wp.u_ttup, ↓Wp.u_tnil, ↓Wp.u_tcons, ↓Wp.u_set, ↓Wp.u_par, ↓Wp.u_aug, ↓Wp.u_ife, ↓Wp.u_for, ↓Wp.u_whil, ↓Wp.u_ret, ↓Wp.u_retN, ↓Wp.u_raise, ↓Wp.u_exp, ↓Wp.u_pass, ↓Wp.u_brk, ↓Wp.u_cnt, ↓Wp.u_never, ↓Wp.u_try, ↓Wp.u_snil, ↓Wp.u_scons, ↓Wp.u_augf, ↓Wp.u_turnL, ↓Wp.u_turnF, ↓Wp.opt_un, ↓reduceIte, Wp.optH_some, Wp.optH_none, Wp.u_finF, Wp.u_finL, Wp.u_finD, Wp.vr, Wp.bO, Wp.iO, Wp.nonD, Wp.blD, Lw.wipeE, Wp.parE, Wp.deref_non, Wp.deref_bl, Wp.deref_int, Wp.deref_str, Wp.deref_tup, Wp.deref_lst, Wp.deref_ins, Wp.deref_dct, Wp.deref_scr, Wp.deref_loc, Lw.truthF, Lw.lenF, Lw.keyF, Lw.getK, Lw.putK, Lw.idxF, Wp.idx_str, Lw.slF, Lw.revF, Lw.addF, Lw.subF, Wp.mulF_ok, Wp.mulF_r, Wp.mulF_l, Wp.mulF_lst, Wp.mulF_tup, Wp.mulF_str, Lw.fdivF, Lw.modF, Lw.powF, Lw.binF, Lw.augF, Lw.eqF, Lw.flatD, Lw.eqFl, Lw.inF, Lw.intsF, Lw.cmpF, Lw.isiF, Lw.lookF, Lw.fldF, Lw.clsF, Lw.mthF, Lw.strsF, Lw.blsF, Lw.one, Lw.two, Lw.tupleF, Lw.listF, Lw.intF, L2.ixN, Lw.min2F, Lw.max2F, Lw.maxlF, Lw.minlF, Lw.sumF, Lw.strF, Lw.absF, Lw.lrngF, Lw.isisF, Lw.biF, Lw.splitF, Lw.upperF, Lw.getF, Lw.bmF, Lw.extF, Lw.popF, Lw.bmM, Lw.argF, Lw.lstAt, Lw.itemsF, Lw.gdOf, Lw.frzF, Lw.setF, Lw.putFld, Lw.putIdx, Lw.bmT, Lw.bmW, Lw.tgsFit, Wp.dropE_nil, Wp.dropE_cons, Lw.delL, Wp.atI_zero, Wp.atI_pos, Wp.atI_last, Lw.Mem.set_same, Lw.Mem.set_set, Lw.Mem.set_ne, Lw.Mem.del_set, Wp.rngL_length, Wp.join_signs, Wp.mem_swap, Wp.sizeLine_val, Wp.one_inj, List.cons_append, List.nil_append, Int.reduceAbs, Nat.reducePow, Nat.reduceMod, Nat.reduceDiv, Nat.reduceAdd, Nat.reduceMul, Nat.reduceSub, Nat.reduceLT, Nat.reduceLeDiff, Nat.reduceEqDiff, Int.reduceAdd, Int.reduceSub, Int.reduceMul, Int.reduceLT, Int.reduceLE, Int.reduceGT, Int.reduceGE, Int.reduceEq, Int.reduceNe, Int.reducePow, Int.reduceToNat, Int.reduceDiv, Int.reduceMod, reduceCtorEq, Int.cast_ofNat_Int, if_true, if_false, Bool.false_eq_true, Option.some.injEq, Option.map_some, Option.bind_some, Option.map_none, Option.bind_none, Option.join_some, Option.isSome_some, Option.isSome_none, List.length_range, List.map_cons, List.map_nil, List.length_cons, List.length_nil, List.length_map, List.set_cons_zero, List.set_cons_succ, List.mem_cons, List.not_mem_nil, List.all_cons, List.all_nil, List.any_cons, List.any_nil, Bool.and_eq_true, Bool.and_true, Bool.true_and, Bool.and_false, Bool.false_and, Bool.or_false, Bool.false_or, Bool.or_true, Bool.true_or, Bool.not_true, Bool.not_false, Bool.not_eq_true, Bool.not_eq_false', Bool.not_eq_true', decide_eq_true_eq, decide_eq_false_iff_not, decide_true, decide_false, and_true, true_and, and_false, false_and, or_true, true_or, or_false, false_or, not_true_eq_false, not_false_eq_true, eq_self, ite_self, ne_eq, Int.reduceNeg, List.cons_ne_nil, S.gc_MOST_SMALL, S.gc_LEAST_SMALL, S.gc_MOST_SIGNS, S.gc_FREE, S.gc_WALL, S.gc_MARKS, S.gc_CELL, S.gc_PRIME, S.gc_MOST_SPEED, S.gc_MANY_CELLS, S.gc_MOST_BODIES_worlds, S.gc_MOST_TICK, S.gc_MANY_SHARED, S.gc_MOST_SAID, S.gc_LINE_END, S.gc_LETTERS, S.gc_BLANK, S.gc_MOST_ROWS, S.gc_MOST_SIDE, S.gc_MOST_PULL, S.gc_MOST_PLAYERS, S.gc_MOST_KINDS, S.gc_MOST_BIRTHS, S.gm_Screen_show, S.gm_Screen_shown, S.gm_Screen_picture, S.gi_Ground, S.gi_Kind, S.gi_Game, S.gi_World, S.gi_Screen, S.gf_Ground, S.gf_Kind, S.gf_Game, S.gf_World, S.gf_Screen, S.gs_NoWorld_NoWorld, S.gcls, S.N_Ground, S.N_rows, S.N_wide, S.N_high, S.N_Kind, S.N_solid, S.N_pull, S.N_program, S.N_Game, S.N_players, S.N_ground, S.N_kinds, S.N_births, S.N_World, S.N_tick, S.N_seed, S.N_shared, S.N_count, S.N_bodies, S.N_said, S.N_Screen, S.N_played, S.N_drawing, S.N_times, S.N_NoWorld, S.N_show, S.N_shown, S.N_picture, S.N_Program, S.w_is_integer, S.w_is_within, S.w_is_sized, S.w_is_sized_non, S.allF_map, S.anyF_map, S.w_is_small, S.w_is_seed, S.w_is_speed, S.w_are_small, S.w_law_sign, S.w_law_spots, S.w_law_common, S.w_law_program_of, S.cut14, S.cut_3, S.cut_4, S.cut_7, S.cut4_, S.cut1_, S.cut_n, S.w_is_body_non, S.cut_init, *])
section
variable {n : Nat} {M : Mem} {Q : DK1} {X : XK1} {hq : Hid Q} {hx hx' : Hid X}
theorem w_rows_of {rs : List (List Nat)} (h : TxOK rs) : callH (wpF gg fs (n + 1)) F_rows_of [.str (textF rs)] M Q X hq hx = Q (.lst (rs.map .str)) M := by
  have h1 := text_len2 h.rs
  have h2 := spl_text rs fun r hr => (h.l r hr).2
  rw [go_rows_of]
  walk_at "wp*"
  rw [List.map_append, List.map_cons, List.map_nil]
  walk_at "wp"
theorem w_changes {W H : Nat} {G1 G2 : Gd} (hW : W ≤ 12) (hH : H ≤ 8) (h1 : TxOK (gridR W H G1)) (h2 : TxOK (gridR W H G2)) (k : Q (.tup (difF G1 G2 W H)) M) :
    callH (wpF gg fs (n + 2)) F_changes_between [.str (textF (gridR W H G1)), .str (textF (gridR W H G2))] M Q X hq hx := by
  rw [go_changes_between]
  walk_at "wp"
  refine new_i fun l hl => ?_
  walk_at "wp"
  rw [w_rows_of h1]
  walk_at "wp"
  rw [w_rows_of h2]
  walk_at "wp"
  rw [zipL_map, enumL_map]
  refine forH_ix (fun i e m => ∃ o3 o4 o5 o6 o7, e = [some (.str (textF (gridR W H G1))), some (.str (textF (gridR W H G2))), some (.loc l), o3, o4, o5, o6, o7] ∧ m = M.set l (.lst (difF G1 G2 W i)))
    ⟨none, none, none, none, none, rfl, rfl⟩ (fun _ _ _ _ => ⟨trivial, trivial⟩) ?_ ?_
  · rintro i p e m kk hp ⟨o3, o4, o5, o6, o7, rfl, rfl⟩ kn
    obtain ⟨hi, rfl⟩ := row_at hp
    clear hp k
    rw [difF_succ] at kn
    have hlen := difF_len (G1 := G1) (G2 := G2) (W := W) (H := i)
    have hlm : i * W ≤ 96 := Nat.mul_le_mul (by omega : i ≤ 8) hW
    generalize difF G1 G2 W i = acc at kn hlen ⊢
    have hb : ((List.range W).map fun x : Nat => G2 i x).length ≤ 16777216 := by simp; omega
    have hb1 : W ≤ 16777216 := by omega
    walk_at "wp*"
    rw [enumL_map]
    refine forH_ix (fun j e m => ∃ o6 o7, e = [some (.str (textF (gridR W H G1))), some (.str (textF (gridR W H G2))), some (.loc l), some (.int (i : Nat)), some (.str ((List.range W).map fun x : Nat => G1 i x)), some (.str ((List.range W).map fun x : Nat => G2 i x)), o6, o7] ∧ m = M.set l (.lst (acc ++ difRow G1 G2 i j)))
      ⟨_, _, rfl, by simp [difRow]⟩ (fun _ _ _ _ => trivial) ?_ ?_
    · rintro j p e m k2 hp ⟨p6, p7, rfl, rfl⟩ kn2
      obtain ⟨hj, rfl⟩ := col_at hp
      have hj2 := difRow_len (G1 := G1) (G2 := G2) (y := i) (W := j)
      have e1 : L2.atI ((List.range W).map fun x : Nat => G1 i x) (j : Int) = some (G1 i j) := by
        rw [atI_nat]
        simp [hj]
      have b2 : (acc ++ difRow G1 G2 i j).length < 16777216 := by
        rw [List.length_append]
        omega
      rw [difRow_succ, ← List.append_assoc] at kn2
      generalize acc ++ difRow G1 G2 i j = cur at kn2 b2 ⊢
      clear hp kn hj2 hlen hlm hb
      by_cases hne : G2 i j = G1 i j
      · rw [if_neg (by simp [hne])] at kn2
        have kn2 := kn2 _ _ ⟨some (.int (j : Nat)), some (.str [G2 i j]), rfl, rfl⟩
        rw [List.append_nil, hne] at kn2
        rw [hne]
        walk_at "wp*"
      · rw [if_pos hne] at kn2
        have kn2 := kn2 _ _ ⟨some (.int (j : Nat)), some (.str [G2 i j]), rfl, rfl⟩
        walk_at "wp*"
    · rintro e m ⟨p6, p7, rfl, rfl⟩
      rw [List.length_zipIdx, List.length_map, List.length_range]
      walk_at "wp"
      exact kn _ _ ⟨_, _, _, _, _, rfl, rfl⟩
  · rintro e m ⟨o3, o4, o5, o6, o7, rfl, rfl⟩
    rw [List.length_zipIdx, List.length_zip, gridR_len, gridR_len, Nat.min_self]
    walk_at "wp*"
/-! the law's differences -/
theorem textF_at {W : Nat} {G : Gd} : ∀ {H i : Nat}, i < H * (W + 1) → (textF (gridR W H G))[i]? = some (if i % (W + 1) < W then G (i / (W + 1) : Nat) (i % (W + 1) : Nat) else 10)
  | 0, i, h => by omega
  | H + 1, i, h => by
    have e : textF (gridR W (H + 1) G) = textF (gridR W H G) ++ (((List.range W).map fun x : Nat => G H x) ++ [10]) := by
      have := take_text (W := W) (H := H + 1) (G := G) (y := H) (by omega)
      rw [List.take_of_length_le (by rw [gridR_len]; omega)] at this
      rw [this]
      congr 2
      simp only [gridR, List.range_succ, List.map_append]
      rw [List.take_append_of_le_length (by simp), List.take_of_length_le (by simp)]
    have hl : (textF (gridR W H G)).length = H * (W + 1) := by rw [textF_len (W := W) fun r hr => gridR_rowlen r hr, gridR_len]
    rw [e]
    by_cases hi : i < H * (W + 1)
    · rw [List.getElem?_append_left (by omega)]
      exact textF_at hi
    · rw [List.getElem?_append_right (by omega), hl]
      have hd : i / (W + 1) = H := by
        rw [Nat.div_eq_iff (by omega)]
        rw [Nat.succ_mul] at h
        omega
      have hm : i % (W + 1) = i - H * (W + 1) := by
        have := Nat.div_add_mod i (W + 1)
        rw [hd, Nat.mul_comm] at this
        omega
      rw [hd, hm]
      rw [Nat.succ_mul] at h
      by_cases hx : i - H * (W + 1) < W
      · rw [List.getElem?_append_left (by simpa using hx), if_pos hx]
        simp [hx]
      · rw [List.getElem?_append_right (by simpa using hx), if_neg hx]
        have : i - H * (W + 1) = W := by omega
        rw [this]
        simp
theorem fm_congr {α β : Type} {f g : α → Option β} : ∀ {xs : List α}, (∀ x ∈ xs, f x = g x) → xs.filterMap f = xs.filterMap g
  | [], _ => rfl
  | x :: xs, h => by
    rw [List.filterMap_cons, List.filterMap_cons, h x List.mem_cons_self, fm_congr fun y hy => h y (List.mem_cons_of_mem _ hy)]
/-- what the law finds at one sign -/
def oneD (G1 G2 : Gd) (W : Nat) (i : Nat) : Option D := if i % (W + 1) < W ∧ G2 (i / (W + 1) : Nat) (i % (W + 1) : Nat) ≠ G1 (i / (W + 1) : Nat) (i % (W + 1) : Nat) then some (D.tup [.int (i / (W + 1) : Nat), .int (i % (W + 1) : Nat), .str [G2 (i / (W + 1) : Nat) (i % (W + 1) : Nat)]]) else none
theorem flat_dif {G1 G2 : Gd} {W : Nat} : ∀ H : Nat, (List.range (H * (W + 1))).filterMap (oneD G1 G2 W) = difF G1 G2 W H
  | 0 => by simp [difF]
  | H + 1 => by
    rw [Nat.succ_mul, List.range_add, List.filterMap_append, flat_dif H, difF_succ]
    congr 1
    rw [List.range_succ, List.map_append, List.filterMap_append, List.filterMap_map]
    have e1 : ∀ x, x ≤ W → (H * (W + 1) + x) / (W + 1) = H ∧ (H * (W + 1) + x) % (W + 1) = x := by
      intro x hx
      constructor
      · rw [Nat.div_eq_iff (by omega)]
        omega
      · rw [Nat.add_comm, Nat.add_mul_mod_self_right, Nat.mod_eq_of_lt (by omega)]
    have e2 : ([W].map (fun x => H * (W + 1) + x)).filterMap (oneD G1 G2 W) = [] := by
      simp only [List.map_cons, List.map_nil, List.filterMap_cons, List.filterMap_nil, oneD, (e1 W (Nat.le_refl _)).1, (e1 W (Nat.le_refl _)).2]
      rw [if_neg (by omega)]
    rw [e2, List.append_nil]
    unfold difRow
    apply fm_congr
    intro x hx
    have hx := List.mem_range.mp hx
    simp only [Function.comp_def, oneD, (e1 x (by omega)).1, (e1 x (by omega)).2]
    by_cases h : G2 H x = G1 H x <;> simp [h, hx]
theorem w_differences {W H : Nat} {G1 G2 : Gd} (hW : W ≤ 12) (hH : H ≤ 8) (k : Q (.tup (difF G1 G2 W H)) M) :
    callH (wpF gg fs (n + 1)) F_law_differences [.str (textF (gridR W H G1)), .str (textF (gridR W H G2)), .int W] M Q X hq hx := by
  have l1 : (textF (gridR W H G1)).length = H * (W + 1) := by rw [textF_len (W := W) fun r hr => gridR_rowlen r hr, gridR_len]
  have l2 : (textF (gridR W H G2)).length = H * (W + 1) := by rw [textF_len (W := W) fun r hr => gridR_rowlen r hr, gridR_len]
  have hm : H * (W + 1) ≤ 104 := small_mul (a := H) (b := W + 1) hH (by omega)
  have b1 : (textF (gridR W H G1)).length ≤ 16777216 := by omega
  have b2 : (textF (gridR W H G2)).length ≤ 16777216 := by omega
  have r1 : -4611686018427387904 ≤ (((textF (gridR W H G1)).length : Nat) : Int) := by omega
  have r2 : (((textF (gridR W H G1)).length : Nat) : Int) < 4611686018427387904 := by omega
  have hat1 := fun i (hi : i < H * (W + 1)) => textF_at (G := G1) hi
  have hat2 := fun i (hi : i < H * (W + 1)) => textF_at (G := G2) hi
  have hflat := flat_dif (G1 := G1) (G2 := G2) (W := W) H
  generalize textF (gridR W H G1) = t1 at *
  generalize textF (gridR W H G2) = t2 at *
  rw [go_law_differences]
  have l1' := l1.symm
  have hW1 : (0 : Int) < (W : Int) + 1 := by omega
  have hW2 : (W : Int) + 1 < 1073741824 := by omega
  clear l1
  walk_at "wp*"
  refine new_i fun l hl => ?_
  walk_at "wp*"
  refine forH_rng (fun i e m => ∃ o, e = [some (.str t1), some (.str t2), some (.int W), some (.loc l), o] ∧ m = M.set l (.lst ((List.range i.toNat).filterMap (oneD G1 G2 W)))) (by omega) ⟨none, rfl, rfl⟩ (fun _ => trivial) ?_ ?_
  · rintro i e m kk i1 i2 ⟨o, rfl, rfl⟩ kn
    obtain ⟨i, rfl⟩ : ∃ j : Nat, i = j := ⟨i.toNat, by omega⟩
    have hi : i < H * (W + 1) := by omega
    have a1 := hat1 i hi
    have a2 := hat2 i hi
    rw [← atI_nat] at a1 a2
    rw [show ((i : Int) + 1).toNat = i + 1 by omega, List.range_succ, List.filterMap_append] at kn
    rw [show ((i : Int)).toNat = i by omega]
    have hlen : ((List.range i).filterMap (oneD G1 G2 W)).length < 16777216 := by
      have := List.length_filterMap_le (oneD G1 G2 W) (List.range i)
      rw [List.length_range] at this
      omega
    generalize (List.range i).filterMap (oneD G1 G2 W) = acc at kn hlen ⊢
    have d1 : (i : Int) / ((W : Int) + 1) = ((i / (W + 1) : Nat) : Int) := by
      rw [Int.natCast_ediv]
      rfl
    have d2 : (i : Int) % ((W : Int) + 1) = ((i % (W + 1) : Nat) : Int) := by
      rw [Int.natCast_emod]
      rfl
    have kn := kn [some (.str t1), some (.str t2), some (.int W), some (.loc l), some (.int i)] _ ⟨_, rfl, rfl⟩
    simp only [List.filterMap_cons, List.filterMap_nil, oneD] at kn
    clear hat1 hat2 hflat k l1' hi l2 hm
    by_cases hx : i % (W + 1) < W
    · rw [if_pos hx] at a1 a2
      by_cases hne : G2 (i / (W + 1) : Nat) (i % (W + 1) : Nat) = G1 (i / (W + 1) : Nat) (i % (W + 1) : Nat)
      · rw [if_neg (fun q => q.2 hne)] at kn
        simp only [List.append_nil] at kn
        rw [hne] at a2
        walk_at "wp*"
      · rw [if_pos ⟨hx, hne⟩] at kn
        simp only at kn
        have hne2 : ¬ G1 (i / (W + 1) : Nat) (i % (W + 1) : Nat) = G2 (i / (W + 1) : Nat) (i % (W + 1) : Nat) := fun q => hne q.symm
        walk_at "wp*"
    · rw [if_neg hx] at a1 a2
      rw [if_neg (fun q => hx q.1)] at kn
      simp only [List.append_nil] at kn
      walk_at "wp*"
  · rintro e m ⟨o, rfl, rfl⟩
    rw [← l1', Int.toNat_natCast, hflat]
    clear hat1 hat2 hflat l1'
    walk_at "wp*"
end
end S

set_option Elab.async false
set_option linter.all false
set_option maxRecDepth 100000
set_option maxHeartbeats 4000000
/-! PL: lines of bodies, what is the same, screens. -/
namespace S
open Lw Wp
open PySem (Addr)
local macro_rules | `(tactic| walk_at "wp") => `(tactic| try simp -dsimp -implicitDefEqProofs only [↓Wp.u_var, ↓Wp.u_cst, ↓Wp.u_glb, ↓Wp.u_fld, ↓Wp.u_bin, ↓Wp.u_neg, ↓Wp.u_cmp, ↓Wp.u_chn, ↓Wp.u_isN, ↓Wp.u_notN, ↓Wp.u_isB, ↓Wp.u_and, ↓Wp.u_or, ↓Wp.u_not, ↓Wp.u_ite, ↓Wp.u_tup, ↓Wp.u_lst, ↓Wp.u_dct0, ↓Wp.u_dct1, ↓Wp.u_call, ↓Wp.u_make, ↓Wp.u_meth, ↓Wp.u_bi, ↓Wp.u_bm, ↓Wp.u_idx, ↓Wp.u_sl, ↓Wp.u_rev, ↓Wp.u_lc, ↓Wp.u_frz, ↓Wp.u_nil, ↓Wp.u_cons, ↓Wp.u_tval, ↓Wp.u_tand, ↓Wp.u_tor, ↓Wp.u_tnot, ↓Wp.u_tn, ↓Wp.u_ts, ↓Wp.u_on, ↓Wp.u_os, ↓Wp.u_of, ↓Wp.u_rng1, ↓Wp.u_rng2, ↓Wp.u_rng3, ↓Wp.u_enum, ↓Wp.u_zip, ↓Wp.u_tname, ↓Wp.u_tfld, ↓Wp.u_tidx, ↓Wp.u_ttup, ↓Wp.u_tnil, ↓Wp.u_tcons, ↓Wp.u_set, ↓Wp.u_par, ↓Wp.u_aug, ↓Wp.u_ife, ↓Wp.u_for, ↓Wp.u_whil, ↓Wp.u_ret, ↓Wp.u_retN, ↓Wp.u_raise, ↓Wp.u_exp, ↓Wp.u_pass, ↓Wp.u_brk, ↓Wp.u_cnt, ↓Wp.u_never, ↓Wp.u_try, ↓Wp.u_snil, ↓Wp.u_scons, ↓Wp.u_augf, ↓Wp.u_turnL, ↓Wp.u_turnF, ↓Wp.opt_un, ↓reduceIte, Wp.optH_some, Wp.optH_none, Wp.u_finF, Wp.u_finL, Wp.u_finD, Wp.vr, Wp.bO, Wp.iO, Wp.nonD, Wp.blD, Lw.wipeE, Wp.parE, Wp.deref_non, Wp.deref_bl, Wp.deref_int, Wp.deref_str, Wp.deref_tup, Wp.deref_lst, Wp.deref_ins, Wp.deref_dct, Wp.deref_scr, Wp.deref_loc, Lw.truthF, Lw.lenF, Lw.keyF, Lw.getK, Lw.putK, Lw.idxF, Wp.idx_str, Lw.slF, Lw.revF, Lw.addF, Lw.subF, Wp.mulF_ok, Wp.mulF_r, Wp.mulF_l, Wp.mulF_lst, Wp.mulF_tup, Wp.mulF_str, Lw.fdivF, Lw.modF, Lw.powF, Lw.binF, Lw.augF, Lw.eqF, Lw.flatD, Lw.eqFl, Lw.inF, Lw.intsF, Lw.cmpF, Lw.isiF, Lw.lookF, Lw.fldF, Lw.clsF, Lw.mthF, Lw.strsF, Lw.blsF, Lw.one, Lw.two, Lw.tupleF, Lw.listF, Lw.intF, L2.ixN, Lw.min2F, Lw.max2F, Lw.maxlF, Lw.minlF, Lw.sumF, Lw.strF, Lw.absF, Lw.lrngF, Lw.isisF, Lw.biF, Lw.splitF, Lw.upperF, Lw.getF, Lw.bmF, Lw.extF, Lw.popF, Lw.bmM, Lw.argF, Lw.lstAt, Lw.itemsF, Lw.gdOf, Lw.frzF, Lw.setF, Lw.putFld, Lw.putIdx, Lw.bmT, Lw.bmW, Lw.tgsFit, Wp.dropE_nil, Wp.dropE_cons, Lw.delL, Wp.atI_zero, Wp.atI_pos, Wp.atI_last, Lw.Mem.set_same, Lw.Mem.set_set, Lw.Mem.set_ne, Lw.Mem.del_set, Wp.rngL_length, Wp.join_signs, Wp.mem_swap, Wp.sizeLine_val, Wp.one_inj, List.cons_append, List.nil_append, Int.reduceAbs, Nat.reducePow, Nat.reduceMod, Nat.reduceDiv, Nat.reduceAdd, Nat.reduceMul, Nat.reduceSub, Nat.reduceLT, Nat.reduceLeDiff, Nat.reduceEqDiff, Int.reduceAdd, Int.reduceSub, Int.reduceMul, Int.reduceLT, Int.reduceLE, Int.reduceGT, Int.reduceGE, Int.reduceEq, Int.reduceNe, Int.reducePow, Int.reduceToNat, Int.reduceDiv, Int.reduceMod, reduceCtorEq, Int.cast_ofNat_Int, if_true, if_false, Bool.false_eq_true, Option.some.injEq, Option.map_some, Option.bind_some, Option.map_none, Option.bind_none, Option.join_some, Option.isSome_some, Option.isSome_none, List.length_range, List.map_cons, List.map_nil, List.length_cons, List.length_nil, List.length_map, List.set_cons_zero, List.set_cons_succ, List.mem_cons, List.not_mem_nil, List.all_cons, List.all_nil, List.any_cons, List.any_nil, Bool.and_eq_true, Bool.and_true, Bool.true_and, Bool.and_false, Bool.false_and, Bool.or_false, Bool.false_or, Bool.or_true, Bool.true_or, Bool.not_true, Bool.not_false, Bool.not_eq_true, Bool.not_eq_false', Bool.not_eq_true', decide_eq_true_eq, decide_eq_false_iff_not, decide_true, decide_false, and_true, true_and, and_false, false_and, or_true, true_or, or_false, false_or, not_true_eq_false, not_false_eq_true, eq_self, ite_self, ne_eq, Int.reduceNeg, List.cons_ne_nil, S.gc_MOST_SMALL, S.gc_LEAST_SMALL, S.gc_MOST_SIGNS, S.gc_FREE, S.gc_WALL, S.gc_MARKS, S.gc_CELL, S.gc_PRIME, S.gc_MOST_SPEED, S.gc_MANY_CELLS, S.gc_MOST_BODIES_worlds, S.gc_MOST_TICK, S.gc_MANY_SHARED, S.gc_MOST_SAID, S.gc_LINE_END, S.gc_LETTERS, S.gc_BLANK, S.gc_MOST_ROWS, S.gc_MOST_SIDE, S.gc_MOST_PULL, S.gc_MOST_PLAYERS, S.gc_MOST_KINDS, S.gc_MOST_BIRTHS, S.gm_Screen_show, S.gm_Screen_shown, S.gm_Screen_picture, S.gi_Ground, S.gi_Kind, S.gi_Game, S.gi_World, S.gi_Screen, S.gf_Ground, S.gf_Kind, S.gf_Game, S.gf_World, S.gf_Screen, S.gs_NoWorld_NoWorld, S.gcls, S.N_Ground, S.N_rows, S.N_wide, S.N_high, S.N_Kind, S.N_solid, S.N_pull, S.N_program, S.N_Game, S.N_players, S.N_ground, S.N_kinds, S.N_births, S.N_World, S.N_tick, S.N_seed, S.N_shared, S.N_count, S.N_bodies, S.N_said, S.N_Screen, S.N_played, S.N_drawing, S.N_times, S.N_NoWorld, S.N_show, S.N_shown, S.N_picture, S.N_Program, S.w_is_integer, S.w_is_within, S.w_is_sized, S.w_is_sized_non, S.allF_map, S.anyF_map, S.w_is_small, S.w_is_seed, S.w_is_speed, S.w_are_small, S.w_law_sign, S.w_law_spots, S.w_law_common, S.w_law_program_of, S.cut14, S.cut_3, S.cut_4, S.cut_7, S.cut4_, S.cut1_, S.cut_n, S.w_is_body_non, S.cut_init])
local macro_rules | `(tactic| walk_at "wp*") => `(tactic| try simp -dsimp -implicitDefEqProofs only [↓Wp.u_var, ↓Wp.u_cst, ↓Wp.u_glb, ↓Wp.u_fld, ↓Wp.u_bin, ↓Wp.u_neg, ↓Wp.u_cmp, ↓Wp.u_chn, ↓Wp.u_isN, ↓Wp.u_notN, ↓Wp.u_isB, ↓Wp.u_and, ↓Wp.u_or, ↓Wp.u_not, ↓Wp.u_ite, ↓Wp.u_tup, ↓Wp.u_lst, ↓Wp.u_dct0, ↓Wp.u_dct1, ↓Wp.u_call, ↓Wp.u_make, ↓Wp.u_meth, ↓Wp.u_bi, ↓Wp.u_bm, ↓Wp.u_idx, ↓Wp.u_sl, ↓Wp.u_rev, ↓Wp.u_lc, ↓Wp.u_frz, ↓Wp.u_nil, ↓Wp.u_cons, ↓Wp.u_tval, ↓Wp.u_tand, ↓Wp.u_tor, ↓Wp.u_tnot, ↓Wp.u_tn, ↓Wp.u_ts, ↓Wp.u_on, ↓Wp.u_os, ↓Wp.u_of, ↓Wp.u_rng1, ↓Wp.u_rng2, ↓Wp.u_rng3, ↓Wp.u_enum, ↓Wp.u_zip, ↓Wp.u_tname, ↓Wp.u_tfld, ↓Wp.u_tidx, ↓Wp.u_ttup, ↓Wp.u_tnil, ↓Wp.u_tcons, ↓Wp.u_set, ↓Wp.u_par, ↓Wp.u_aug, ↓Wp.u_ife, ↓Wp.u_for, ↓Wp.u_whil, ↓Wp.u_ret, ↓Wp.u_retN, ↓Wp.u_raise, ↓Wp.u_exp, ↓Wp.u_pass, ↓Wp.u_brk, ↓Wp.u_cnt, ↓Wp.u_never, ↓Wp.u_try, ↓Wp.u_snil, ↓Wp.u_scons, ↓Wp.u_augf, ↓Wp.u_turnL, ↓Wp.u_turnF, ↓Wp.opt_un, ↓reduceIte, Wp.optH_some, Wp.optH_none, Wp.u_finF, Wp.u_finL, Wp.u_finD, Wp.vr, Wp.bO, Wp.iO, Wp.nonD, Wp.blD, Lw.wipeE, Wp.parE, Wp.deref_non, Wp.deref_bl, Wp.deref_int, Wp.deref_str, Wp.deref_tup, Wp.deref_lst, Wp.deref_ins, Wp.deref_dct, Wp.deref_scr, Wp.deref_loc, Lw.truthF, Lw.lenF, Lw.keyF, Lw.getK, Lw.putK, Lw.idxF, Wp.idx_str, Lw.slF, Lw.revF, Lw.addF, Lw.subF, Wp.mulF_ok, Wp.mulF_r, Wp.mulF_l, Wp.mulF_lst, Wp.mulF_tup, Wp.mulF_str, Lw.fdivF, Lw.modF, Lw.powF, Lw.binF, Lw.augF, Lw.eqF, Lw.flatD, Lw.eqFl, Lw.inF, Lw.intsF, Lw.cmpF, Lw.isiF, Lw.lookF, Lw.fldF, Lw.clsF, Lw.mthF, Lw.strsF, Lw.blsF, Lw.one, Lw.two, Lw.tupleF, Lw.listF, Lw.intF, L2.ixN, Lw.min2F, Lw.max2F, Lw.maxlF, Lw.minlF, Lw.sumF, Lw.strF, Lw.absF, Lw.lrngF, Lw.isisF, Lw.biF, Lw.splitF, Lw.upperF, Lw.getF, Lw.bmF, Lw.extF, Lw.popF, Lw.bmM, Lw.argF, Lw.lstAt, Lw.itemsF, Lw.gdOf, Lw.frzF, Lw.setF, Lw.putFld, Lw.putIdx, Lw.bmT, Lw.bmW, Lw.tgsFit, Wp.dropE_nil, Wp.dropE_cons, Lw.delL, Wp.atI_zero, Wp.atI_pos, Wp.atI_last, Lw.Mem.set_same, Lw.Mem.set_set, Lw.Mem.set_ne, Lw.Mem.del_set, Wp.rngL_length, Wp.join_signs, Wp.mem_swap, Wp.sizeLine_val, Wp.one_inj, List.cons_append, List.nil_append, Int.reduceAbs, Nat.reducePow, Nat.reduceMod, Nat.reduceDiv, Nat.reduceAdd, Nat.reduceMul, Nat.reduceSub, Nat.reduceLT, Nat.reduceLeDiff, Nat.reduceEqDiff, Int.reduceAdd, Int.reduceSub, Int.reduceMul, Int.reduceLT, Int.reduceLE, Int.reduceGT, Int.reduceGE, Int.reduceEq, Int.reduceNe, Int.reducePow, Int.reduceToNat, Int.reduceDiv, Int.reduceMod, reduceCtorEq, Int.cast_ofNat_Int, if_true, if_false, Bool.false_eq_true, Option.some.injEq, Option.map_some, Option.bind_some, Option.map_none, Option.bind_none, Option.join_some, Option.isSome_some, Option.isSome_none, List.length_range, List.map_cons, List.map_nil, List.length_cons, List.length_nil, List.length_map, List.set_cons_zero, List.set_cons_succ, List.mem_cons, List.not_mem_nil, List.all_cons, List.all_nil, List.any_cons, List.any_nil, Bool.and_eq_true, Bool.and_true, Bool.true_and, Bool.and_false, Bool.false_and, Bool.or_false, Bool.false_or, Bool.or_true, Bool.true_or, Bool.not_true, Bool.not_false, Bool.not_eq_true, Bool.not_eq_false', Bool.not_eq_true', decide_eq_true_eq, decide_eq_false_iff_not, decide_true, decide_false, and_true, true_and, and_false, false_and, or_true, true_or, or_false, false_or, not_true_eq_false, not_false_eq_true, eq_self, ite_self, ne_eq, Int.reduceNeg, List.cons_ne_nil, S.gc_MOST_SMALL, S.gc_LEAST_SMALL, S.gc_MOST_SIGNS, S.gc_FREE, S.gc_WALL, S.gc_MARKS, S.gc_CELL, S.gc_PRIME, S.gc_MOST_SPEED, S.gc_MANY_CELLS, S.gc_MOST_BODIES_worlds, S.gc_MOST_TICK, S.gc_MANY_SHARED, S.gc_MOST_SAID, S.gc_LINE_END, S.gc_LETTERS, S.gc_BLANK, S.gc_MOST_ROWS, S.gc_MOST_SIDE, S.gc_MOST_PULL, S.gc_MOST_PLAYERS, S.gc_MOST_KINDS, S.gc_MOST_BIRTHS, S.gm_Screen_show, S.gm_Screen_shown, S.gm_Screen_picture, S.gi_Ground, S.gi_Kind, S.gi_Game, S.gi_World, S.gi_Screen, S.gf_Ground, S.gf_Kind, S.gf_Game, S.gf_World, S.gf_Screen, S.gs_NoWorld_NoWorld, S.gcls, S.N_Ground, S.N_rows, S.N_wide, S.N_high, S.N_Kind, S.N_solid, S.N_pull, S.N_program, S.N_Game, S.N_players, S.N_ground, S.N_kinds, S.N_births, S.N_World, S.N_tick, S.N_seed, S.N_shared, S.N_count, S.N_bodies, S.N_said, S.N_Screen, S.N_played, S.N_drawing, S.N_times, S.N_NoWorld, S.N_show, S.N_shown, S.N_picture, S.N_Program, S.w_is_integer, S.w_is_within, S.w_is_sized, S.w_is_sized_non, S.allF_map, S.anyF_map, S.w_is_small, S.w_is_seed, S.w_is_speed, S.w_are_small, S.w_law_sign, S.w_law_spots, S.w_law_common, S.w_law_program_of, S.cut14, S.cut_3, S.cut_4, S.cut_7, S.cut4_, S.cut1_, S.cut_n, S.w_is_body_non, S.cut_init, *])
def intsF (b : Bd) : List Int := [b.num, b.p.k, b.p.x, b.p.y, b.dx, b.dy, b.own] ++ b.cells
def lineF (b : Bd) : List Nat := TL.joinL [32] ((intsF b).map numS)
theorem numS_len {i : Int} (h : i.natAbs < 10 ^ 12) : (numS i).length ≤ 13 := by
  have := PySem.int_text_length_le10 (k := 12) (by decide) h
  unfold numS
  rw [List.length_map]
  exact this
theorem log_ok {i : Int} (h : i.natAbs < 10 ^ 12) : i.natAbs.log2 < 1920 := by
  by_cases h0 : i.natAbs = 0
  · rw [h0]; decide
  · rw [Nat.log2_lt h0]
    exact Nat.lt_trans h (by decide)
/-- numbers of a body are not great -/
def numOK (b : Bd) : Prop := ∀ i ∈ intsF b, i.natAbs < 10 ^ 12
theorem joinL_len : ∀ (xs : List (List Nat)), (TL.joinL [32] xs).length ≤ (xs.map (·.length)).sum + xs.length
  | [] => by simp [TL.joinL]
  | [x] => by simp [TL.joinL]
  | x :: y :: r => by
    have := joinL_len (y :: r)
    show (x ++ ([32] ++ TL.joinL [32] (y :: r))).length ≤ _
    simp only [List.length_append, List.map_cons, List.sum_cons, List.length_cons, List.length_nil] at this ⊢
    omega
theorem parts_sum {b : Bd} (h : numOK b) (h4 : b.cells.length = 4) : (((intsF b).map numS).map (·.length)).sum ≤ 143 := by
  have := sum_len (xs := (intsF b).map numS) (b := 13) (by
    intro x hx
    obtain ⟨i, hi, rfl⟩ := List.mem_map.mp hx
    exact numS_len (h i hi))
  have hl : ((intsF b).map numS).length = 11 := by simp [intsF, h4]
  rw [hl] at this
  exact this
theorem line_len {b : Bd} (h : numOK b) (h4 : b.cells.length = 4) : (lineF b).length ≤ 160 := by
  have h1 := parts_sum h h4
  have h2 := joinL_len ((intsF b).map numS)
  have hl : ((intsF b).map numS).length = 11 := by simp [intsF, h4]
  unfold lineF
  omega
theorem join_line {b : Bd} (h : numOK b) (h4 : b.cells.length = 4) : joinF (.str [32]) (.lst ((intsF b).map fun i => D.str (numS i))) = some (.str (lineF b)) := by
  have e := strsF_map numS (intsF b)
  simp only [joinF, e, Option.bind_some]
  rw [if_pos]
  · rfl
  · have := parts_sum h h4
    have hl : ((intsF b).map numS).length = 11 := by simp [intsF, h4]
    rw [hl]
    simp only [List.length_cons, List.length_nil]
    omega
section
variable {n : Nat} {M : Mem} {Q : DK1} {X : XK1} {hq : Hid Q} {hx hx' : Hid X}
theorem w_body_line {b : Bd} (h : numOK b) (h4 : b.cells.length = 4) : callH (wpF gg fs (n + 1)) F_body_line [bdD b] M Q X hq hx = Q (.str (lineF b)) M := by
  have e := join_line h h4
  rw [go_body_line]
  walk_at "wp*"
  rw [show D.int b.num :: D.int b.p.k :: D.int b.p.x :: D.int b.p.y :: D.int b.dx :: D.int b.dy :: D.int b.own :: b.cells.map D.int = (intsF b).map D.int from rfl]
  rw [lcH_mapT (fun i => .str (numS i)) trivial (by simp [intsF, h4]) fun i hi k => ?_]
  · walk_at "wp*"
  · have := log_ok (h i hi)
    clear h
    walk_at "wp*"
theorem lines_rs {bs : List Bd} (h : ∀ b ∈ bs, numOK b ∧ b.cells.length = 4) (hl : bs.length ≤ 100) : RsOK (bs.map lineF) := ⟨by rw [List.length_map]; exact hl, fun r hr => by
  obtain ⟨b, hb, rfl⟩ := List.mem_map.mp hr
  have := line_len (h b hb).1 (h b hb).2
  omega⟩
theorem w_lines {bs : List Bd} {a b c d e : D} (h : ∀ b ∈ bs, numOK b ∧ b.cells.length = 4) (hl : bs.length ≤ 100) : callH (wpF gg fs (n + 2)) F_lines_of_bodies [wdL [a, b, c, d, .tup (bs.map bdD), e]] M Q X hq hx = Q (.str (textF (bs.map lineF))) M := by
  rw [go_lines_of_bodies]
  walk_at "wp"
  rw [lcH_mapT (fun b => .str (lineF b)) trivial (by omega) fun b hb k => ?_]
  · walk_at "wp"
    rw [show bs.map (fun b => D.str (lineF b)) = (bs.map lineF).map D.str by rw [List.map_map]; rfl, w_text_lst (lines_rs h hl)]
    walk_at "wp"
  · walk_at "wp"
    rw [w_body_line (h b hb).1 (h b hb).2]
theorem w_bodies_text {bs : List Bd} (h : ∀ b ∈ bs, numOK b ∧ b.cells.length = 4) (hl : bs.length ≤ 100) (k : Q (.str (textF (bs.map lineF))) M) : callH (wpF gg fs (n + 1)) F_law_bodies_text [.tup (bs.map bdD)] M Q X hq hx := by
  rw [go_law_bodies_text]
  walk_at "wp"
  refine forH_ix (fun i e m => ∃ o, e = [some (.tup (bs.map bdD)), some (.str (textF ((bs.take i).map lineF))), o, none] ∧ m = M) ⟨none, rfl, rfl⟩ (fun _ _ _ _ => trivial) ?_ ?_
  · rintro i b e m kk hi ⟨o, rfl, rfl⟩ kn
    have hb := h b (List.mem_of_getElem? hi)
    have ej := join_line hb.1 hb.2
    have hll := line_len hb.1 hb.2
    rw [List.take_add_one, hi, Option.toList_some, List.map_append, List.map_cons, List.map_nil, textF_snoc, ← List.append_assoc] at kn
    have hlen : (textF ((bs.take i).map lineF)).length ≤ 16777000 := by
      have h1 := sum_len (xs := ((bs.take i).map lineF).map (· ++ [10])) (b := 161) (by
        intro x hx
        obtain ⟨r, hr, rfl⟩ := List.mem_map.mp hx
        obtain ⟨b2, hb2, rfl⟩ := List.mem_map.mp hr
        have := line_len (h b2 (List.mem_of_mem_take hb2)).1 (h b2 (List.mem_of_mem_take hb2)).2
        simp only [List.length_append, List.length_cons, List.length_nil]
        omega)
      rw [List.length_map, List.length_map] at h1
      have h2 : (bs.take i).length ≤ 100 := by rw [List.length_take]; omega
      have h3 : (bs.take i).length * 161 ≤ 100 * 161 := Nat.mul_le_mul_right _ h2
      unfold textF
      rw [List.length_flatten]
      have e : List.map List.length (((bs.take i).map lineF).map (· ++ [10])) = (((bs.take i).map lineF).map (· ++ [10])).map (fun x => x.length) := rfl
      rw [e]
      omega
    generalize textF ((bs.take i).map lineF) = acc at kn hlen ⊢
    have kn := kn _ _ ⟨some (bdD b), rfl, rfl⟩
    have b1 : acc.length + (lineF b).length ≤ 16777216 := by omega
    have b2 : acc.length + (lineF b).length ≤ 16777215 := by omega
    clear k hi h
    walk_at "wp*"
    rw [show D.int b.num :: D.int b.p.k :: D.int b.p.x :: D.int b.p.y :: D.int b.dx :: D.int b.dy :: D.int b.own :: b.cells.map D.int = (intsF b).map D.int from rfl]
    rw [lcH_mapT (fun i => .str (numS i)) trivial (by simp [intsF, hb.2]) fun i hi k => ?_]
    · clear hb
      walk_at "wp*"
      simp only [List.length_append]
      walk_at "wp*"
    · have := log_ok (hb.1 i hi)
      clear hb kn
      walk_at "wp*"
  · rintro e m ⟨o, rfl, rfl⟩
    rw [List.take_length]
    walk_at "wp*"
/-! what is the same -/
def okS : Nat → D → Prop
  | _, .str c => c.length ≤ 16777216
  | _, .int _ => True
  | d + 1, .tup xs => xs.length ≤ 16777216 ∧ ∀ x ∈ xs, okS d x
  | _, _ => False
theorem w_same : ∀ (d : Nat) {n : Nat} {M : Mem} {Q : DK1} {X : XK1} {hq : Hid Q} {hx : Hid X} (x : D), okS d x → Q (.bl true) M → callH (wpF gg fs (n + d + 2)) F_law_same [x, x] M Q X hq hx
  | d, n, M, Q, X, hq, hx, .str c, h, k => by
    rw [go_law_same]
    walk_at "wp*"
  | d, n, M, Q, X, hq, hx, .int i, h, k => by
    rw [go_law_same]
    walk_at "wp*"
    rw [go_law_is_integer]
    walk_at "wp*"
  | d + 1, n, M, Q, X, hq, hx, .tup xs, h, k => by
    obtain ⟨hl, hs⟩ := h
    rw [go_law_same]
    walk_at "wp"
    rw [show zipL xs xs = (xs.zip xs).map fun p => D.tup [p.1, p.2] from rfl]
    refine forH_anyB (a := .mk) (b := .mk) (c := .mk) (h := .mk) (fun _ => false) (fun e => ∃ o1 o2, e = [some (.tup xs), some (.tup xs), o1, o2]) False ⟨_, _, rfl⟩ ⟨trivial, trivial⟩ ?_ (fun q => by simp at q) (fun _ => ?_)
    · rintro p hp e kk ⟨o1, o2, rfl⟩ _ k2
      have k2 := k2 rfl _ ⟨some p.1, some p.2, rfl⟩
      have hpe : p.2 = p.1 ∧ p.1 ∈ xs := by
        obtain ⟨j, hj⟩ := List.getElem?_of_mem hp
        rw [List.getElem?_zip_eq_some] at hj
        have := hj.1.symm.trans hj.2
        exact ⟨(Option.some.inj this).symm, List.mem_of_getElem? hj.1⟩
      obtain ⟨q1, q2⟩ := p
      obtain ⟨e1, e2⟩ := hpe
      simp only at e1 e2 k2 ⊢
      subst e1
      walk_at "wp"
      refine w_same d (n := n) q2 (hs _ e2) ?_
      walk_at "wp*"
    · rintro e ⟨o1, o2, rfl⟩
      walk_at "wp*"
  | 0, n, M, Q, X, hq, hx, .tup xs, h, k => h.elim
  | d, n, M, Q, X, hq, hx, .non, h, k => by cases d <;> exact h.elim
  | d, n, M, Q, X, hq, hx, .bl b, h, k => by cases d <;> exact h.elim
  | d, n, M, Q, X, hq, hx, .lst b, h, k => by cases d <;> exact h.elim
  | d, n, M, Q, X, hq, hx, .ins _ _ _, h, k => by cases d <;> exact h.elim
  | d, n, M, Q, X, hq, hx, .dct _ _, h, k => by cases d <;> exact h.elim
  | d, n, M, Q, X, hq, hx, .loc _, h, k => by cases d <;> exact h.elim
  | d, n, M, Q, X, hq, hx, .scr _, h, k => by cases d <;> exact h.elim
/-! screens -/
@[reducible] def scrMO (g : D) (A : List Nat) (t : Int) : MO := .ins N_Screen [N_played, N_drawing, N_times] [g, .str A, .int t]
theorem screen_make {r : Gr} {ks : List Kd} {pl : Int} (k : ∀ b, M b = none → Q (.loc b) (M.set b (scrMO (gameI r ks pl) (textF r.rows) 0))) : makeH gg (wpF gg fs (n + 3)) N_Screen false [gameI r ks pl] M Q X hq hx := by
  refine make_m gi_Screen fun b hb => ?_
  rw [go_Screen_init]
  have k := k b hb
  walk_at "wp*"
  rw [w_ground_picture]
  walk_at "wp*"
theorem at_no10 {r : Gr} {y x : Nat} : r.at y x ≠ 10 := by
  intro e
  unfold Gr.at at e
  rw [List.getD_eq_getElem?_getD] at e
  cases h : (r.rows.getD y [])[x]? with
  | none =>
    rw [h] at e
    cases e
  | some c =>
    rw [h] at e
    have e : c = 10 := e
    have hc := List.mem_of_getElem? h
    rw [List.getD_eq_getElem?_getD] at hc
    cases h2 : r.rows[y]? with
    | none =>
      rw [h2] at hc
      cases hc
    | some s =>
      rw [h2] at hc
      have := r.ok.ok s (List.mem_of_getElem? h2) c hc
      rcases this with q | q | q <;> omega
theorem grid_tx {W H : Nat} {G : Gd} (hW : W ≤ 12) (hH : H ≤ 8) (h : ∀ y x, G y x ≠ 10) : TxOK (gridR W H G) := by
  refine ⟨by rw [gridR_len]; omega, fun r hr => ⟨by rw [gridR_rowlen r hr]; omega, ?_⟩⟩
  simp only [gridR, List.mem_map] at hr
  obtain ⟨y, _, rfl⟩ := hr
  simp only [List.mem_map, not_exists, not_and]
  intro x _ e
  exact h _ _ e
theorem seen_no10 {r : Gr} {ks : List Kd} {bs : List Bd} (y x : Int) : seenG r ks bs y x ≠ 10 := by
  unfold seenG
  split
  · unfold letF
    split <;> omega
  · exact at_no10
theorem drawn_ok {r : Gr} {ks : List Kd} {pl : Int} {w : Wd} (hks : ∀ k ∈ ks, KdOK k) (hk8 : ks.length ≤ 8) (ok : WdOK r ks pl w) (k : Q (.str (textF (gridR r.W r.rows.length (seenG r ks w.bs)))) M) :
    callH (wpF gg fs (n + 9)) F_drawn [gameI r ks pl, wdL (wdParts w)] M Q X hq hx := by
  rw [go_drawn]
  walk_at "wp"
  refine check_ok hks ok ?_
  walk_at "wp"
  refine w_picture_of hks hk8 ok.bs.p (by have := ok.bl; omega) ?_
  walk_at "wp"
  exact k
theorem drawn_no {g d : D} (h : NoW g d) (k : X ⟨N_NoWorld⟩ M) : callH (wpF gg fs (n + 9)) F_drawn [g, d] M Q X hq hx := by
  rw [go_drawn]
  walk_at "wp"
  refine check_no h ?_
  exact k
def toldS : D := .str [116, 111, 108, 100]
def noS : D := .tup [.str [78, 111, 87, 111, 114, 108, 100]]
theorem show_ok {r : Gr} {ks : List Kd} {pl : Int} {w : Wd} {G : Gd} {t : Int} {b : Addr} (hks : ∀ k ∈ ks, KdOK k) (hk8 : ks.length ≤ 8) (ok : WdOK r ks pl w) (hG : ∀ y x, G y x ≠ 10)
    (hb : M b = some (scrMO (gameI r ks pl) (textF (gridR r.W r.rows.length G)) t))
    (k : Q (.tup [toldS, .tup (difF G (seenG r ks w.bs) r.W r.rows.length)]) (M.set b (scrMO (gameI r ks pl) (textF (gridR r.W r.rows.length (seenG r ks w.bs))) (t + 1)))) :
    callH (wpF gg fs (n + 11)) F_law_show [.loc b, wdL (wdParts w)] M Q X hq hx := by
  have bw := r.w
  have bh := r.h
  rw [go_law_show]
  walk_at "wp*"
  rw [go_Screen_show]
  walk_at "wp*"
  refine drawn_ok hks hk8 ok ?_
  walk_at "wp*"
  refine w_changes (by omega) (by omega) (grid_tx (by omega) (by omega) hG) (grid_tx (by omega) (by omega) seen_no10) ?_
  walk_at "wp*"
  exact k
theorem show_no {r : Gr} {ks : List Kd} {pl : Int} {d : D} {A : List Nat} {t : Int} {b : Addr} (h : NoW (gameI r ks pl) d) (hb : M b = some (scrMO (gameI r ks pl) A t)) (k : Q noS M) :
    callH (wpF gg fs (n + 11)) F_law_show [.loc b, d] M Q X hq hx := by
  rw [go_law_show]
  walk_at "wp*"
  rw [go_Screen_show]
  walk_at "wp*"
  refine drawn_no h ?_
  walk_at "wp*"
  exact k
theorem told_ok {r : Gr} {ks : List Kd} {pl : Int} {w : Wd} (hks : ∀ k ∈ ks, KdOK k) (ok : WdOK r ks pl w) (hn : ∀ b ∈ w.bs, numOK b ∧ b.cells.length = 4) (k : Q (.tup [toldS, .str (textF (w.bs.map lineF))]) M) :
    callH (wpF gg fs (n + 10)) F_law_lines_told [gameI r ks pl, wdL (wdParts w)] M Q X hq hx := by
  rw [go_law_lines_told]
  walk_at "wp"
  rw [go_body_lines]
  walk_at "wp"
  refine check_ok hks ok ?_
  walk_at "wp"
  rw [w_lines hn (by have := ok.bl; omega)]
  walk_at "wp"
  exact k
theorem told_no {g d : D} (h : NoW g d) (k : Q noS M) : callH (wpF gg fs (n + 10)) F_law_lines_told [g, d] M Q X hq hx := by
  rw [go_law_lines_told]
  walk_at "wp"
  rw [go_body_lines]
  walk_at "wp"
  refine check_no h ?_
  walk_at "wp"
  exact k
theorem wd_num {r : Gr} {ks : List Kd} {pl : Int} {w : Wd} (hks : ∀ k ∈ ks, KdOK k) (hk8 : ks.length ≤ 8) (hp : pl ≤ 4) (ok : WdOK r ks pl w) : ∀ b ∈ w.bs, numOK b ∧ b.cells.length = 4 := by
  intro b hb
  obtain ⟨o1, o2⟩ := ok.bs.b b hb
  have oc := ok.c
  have ok2 := kat_ok hks b.p.k
  obtain ⟨i, hi⟩ := List.getElem?_of_mem hb
  have hcl := ok.bs.p.c i b.p (by rw [List.getElem?_map, hi]; rfl)
  have hkk := ok.bs.p.k b.p (List.mem_map.mpr ⟨b, hb, rfl⟩)
  unfold clearF at hcl
  rw [Bool.and_eq_true] at hcl
  have ce := cells_of ok2.w.1 ok2.h.1 hcl.1
  have c1 := ce.cx
  have c2 := ce.cy
  have bw := r.w
  have bh := r.h
  have w1 := ok2.w
  have h1 := ok2.h
  obtain ⟨n1, n2, n3, n4, ⟨n5, n6⟩⟩ := o1
  refine ⟨fun i hi => ?_, n5⟩
  simp only [intsF, List.cons_append, List.nil_append, List.mem_cons] at hi
  have sm := List.all_eq_true.mp n6
  rcases hi with rfl | rfl | rfl | rfl | rfl | rfl | rfl | hi
  · omega
  · omega
  · omega
  · omega
  · omega
  · omega
  · omega
  · have := sm i hi
    simp only [smallB, Bool.and_eq_true, decide_eq_true_eq] at this
    omega
theorem hand_spec {ns : List Int} (hl : ns.length ≤ 63) (k : ∀ a h, M a = none → HandOK h → Q (.loc a) (M.set a (handMO h))) : callH (wpF gg fs (n + 1)) F_law_hand [.scr ns] M Q X hq hx := by
  rw [go_law_hand]
  walk_at "wp"
  refine new_i fun a ha => ?_
  walk_at "wp"
  exact k a ⟨ns, 0, 0, 1, 0⟩ ha ⟨by simp, by simp, by simp, by simp⟩
end
end S

set_option Elab.async false
set_option linter.all false
set_option maxRecDepth 100000
set_option maxHeartbeats 4000000
/-! PM: the law. -/
namespace S
open Lw Wp
open PySem (Addr)
local macro_rules | `(tactic| walk_at "wp") => `(tactic| try simp -dsimp -implicitDefEqProofs only [↓Wp.u_var, ↓Wp.u_cst, ↓Wp.u_glb, ↓Wp.u_fld, ↓Wp.u_bin, ↓Wp.u_neg, ↓Wp.u_cmp, ↓Wp.u_chn, ↓Wp.u_isN, ↓Wp.u_notN, ↓Wp.u_isB, ↓Wp.u_and, ↓Wp.u_or, ↓Wp.u_not, ↓Wp.u_ite, ↓Wp.u_tup, ↓Wp.u_lst, ↓Wp.u_dct0, ↓Wp.u_dct1, ↓Wp.u_call, ↓Wp.u_make, ↓Wp.u_meth, ↓Wp.u_bi, ↓Wp.u_bm, ↓Wp.u_idx, ↓Wp.u_sl, ↓Wp.u_rev, ↓Wp.u_lc, ↓Wp.u_frz, ↓Wp.u_nil, ↓Wp.u_cons, ↓Wp.u_tval, ↓Wp.u_tand, ↓Wp.u_tor, ↓Wp.u_tnot, ↓Wp.u_tn, ↓Wp.u_ts, ↓Wp.u_on, ↓Wp.u_os, ↓Wp.u_of, ↓Wp.u_rng1, ↓Wp.u_rng2, ↓Wp.u_rng3, ↓Wp.u_enum, ↓Wp.u_zip, ↓Wp.u_tname, ↓Wp.u_tfld, ↓Wp.u_tidx, ↓Wp.u_ttup, ↓Wp.u_tnil, ↓Wp.u_tcons, ↓Wp.u_set, ↓Wp.u_par, ↓Wp.u_aug, ↓Wp.u_ife, ↓Wp.u_for, ↓Wp.u_whil, ↓Wp.u_ret, ↓Wp.u_retN, ↓Wp.u_raise, ↓Wp.u_exp, ↓Wp.u_pass, ↓Wp.u_brk, ↓Wp.u_cnt, ↓Wp.u_never, ↓Wp.u_try, ↓Wp.u_snil, ↓Wp.u_scons, ↓Wp.u_augf, ↓Wp.u_turnL, ↓Wp.u_turnF, ↓Wp.opt_un, ↓reduceIte, Wp.optH_some, Wp.optH_none, Wp.u_finF, Wp.u_finL, Wp.u_finD, Wp.vr, Wp.bO, Wp.iO, Wp.nonD, Wp.blD, Lw.wipeE, Wp.parE, Wp.deref_non, Wp.deref_bl, Wp.deref_int, Wp.deref_str, Wp.deref_tup, Wp.deref_lst, Wp.deref_ins, Wp.deref_dct, Wp.deref_scr, Wp.deref_loc, Lw.truthF, Lw.lenF, Lw.keyF, Lw.getK, Lw.putK, Lw.idxF, Wp.idx_str, Lw.slF, Lw.revF, Lw.addF, Lw.subF, Wp.mulF_ok, Wp.mulF_r, Wp.mulF_l, Wp.mulF_lst, Wp.mulF_tup, Wp.mulF_str, Lw.fdivF, Lw.modF, Lw.powF, Lw.binF, Lw.augF, Lw.eqF, Lw.flatD, Lw.eqFl, Lw.inF, Lw.intsF, Lw.cmpF, Lw.isiF, Lw.lookF, Lw.fldF, Lw.clsF, Lw.mthF, Lw.strsF, Lw.blsF, Lw.one, Lw.two, Lw.tupleF, Lw.listF, Lw.intF, L2.ixN, Lw.min2F, Lw.max2F, Lw.maxlF, Lw.minlF, Lw.sumF, Lw.strF, Lw.absF, Lw.lrngF, Lw.isisF, Lw.biF, Lw.splitF, Lw.upperF, Lw.getF, Lw.bmF, Lw.extF, Lw.popF, Lw.bmM, Lw.argF, Lw.lstAt, Lw.itemsF, Lw.gdOf, Lw.frzF, Lw.setF, Lw.putFld, Lw.putIdx, Lw.bmT, Lw.bmW, Lw.tgsFit, Wp.dropE_nil, Wp.dropE_cons, Lw.delL, Wp.atI_zero, Wp.atI_pos, Wp.atI_last, Lw.Mem.set_same, Lw.Mem.set_set, Lw.Mem.set_ne, Lw.Mem.del_set, Wp.rngL_length, Wp.join_signs, Wp.mem_swap, Wp.sizeLine_val, Wp.one_inj, List.cons_append, List.nil_append, Int.reduceAbs, Nat.reducePow, Nat.reduceMod, Nat.reduceDiv, Nat.reduceAdd, Nat.reduceMul, Nat.reduceSub, Nat.reduceLT, Nat.reduceLeDiff, Nat.reduceEqDiff, Int.reduceAdd, Int.reduceSub, Int.reduceMul, Int.reduceLT, Int.reduceLE, Int.reduceGT, Int.reduceGE, Int.reduceEq, Int.reduceNe, Int.reducePow, Int.reduceToNat, Int.reduceDiv, Int.reduceMod, reduceCtorEq, Int.cast_ofNat_Int, if_true, if_false, Bool.false_eq_true, Option.some.injEq, Option.map_some, Option.bind_some, Option.map_none, Option.bind_none, Option.join_some, Option.isSome_some, Option.isSome_none, List.length_range, List.map_cons, List.map_nil, List.length_cons, List.length_nil, List.length_map, List.set_cons_zero, List.set_cons_succ, List.mem_cons, List.not_mem_nil, List.all_cons, List.all_nil, List.any_cons, List.any_nil, Bool.and_eq_true, Bool.and_true, Bool.true_and, Bool.and_false, Bool.false_and, Bool.or_false, Bool.false_or, Bool.or_true, Bool.true_or, Bool.not_true, Bool.not_false, Bool.not_eq_true, Bool.not_eq_false', Bool.not_eq_true', decide_eq_true_eq, decide_eq_false_iff_not, decide_true, decide_false, and_true, true_and, and_false, false_and, or_true, true_or, or_false, false_or, not_true_eq_false, not_false_eq_true, eq_self, ite_self, ne_eq, Int.reduceNeg, List.cons_ne_nil, S.gc_MOST_SMALL, S.gc_LEAST_SMALL, S.gc_MOST_SIGNS, S.gc_FREE, S.gc_WALL, S.gc_MARKS, S.gc_CELL, S.gc_PRIME, S.gc_MOST_SPEED, S.gc_MANY_CELLS, S.gc_MOST_BODIES_worlds, S.gc_MOST_TICK, S.gc_MANY_SHARED, S.gc_MOST_SAID, S.gc_LINE_END, S.gc_LETTERS, S.gc_BLANK, S.gc_MOST_ROWS, S.gc_MOST_SIDE, S.gc_MOST_PULL, S.gc_MOST_PLAYERS, S.gc_MOST_KINDS, S.gc_MOST_BIRTHS, S.gm_Screen_show, S.gm_Screen_shown, S.gm_Screen_picture, S.gi_Ground, S.gi_Kind, S.gi_Game, S.gi_World, S.gi_Screen, S.gf_Ground, S.gf_Kind, S.gf_Game, S.gf_World, S.gf_Screen, S.gs_NoWorld_NoWorld, S.gcls, S.N_Ground, S.N_rows, S.N_wide, S.N_high, S.N_Kind, S.N_solid, S.N_pull, S.N_program, S.N_Game, S.N_players, S.N_ground, S.N_kinds, S.N_births, S.N_World, S.N_tick, S.N_seed, S.N_shared, S.N_count, S.N_bodies, S.N_said, S.N_Screen, S.N_played, S.N_drawing, S.N_times, S.N_NoWorld, S.N_show, S.N_shown, S.N_picture, S.N_Program, S.w_is_integer, S.w_is_within, S.w_is_sized, S.w_is_sized_non, S.allF_map, S.anyF_map, S.w_is_small, S.w_is_seed, S.w_is_speed, S.w_are_small, S.w_law_sign, S.w_law_spots, S.w_law_common, S.w_law_program_of, S.cut14, S.cut_3, S.cut_4, S.cut_7, S.cut4_, S.cut1_, S.cut_n, S.w_is_body_non, S.cut_init])
local macro_rules | `(tactic| walk_at "wp*") => `(tactic| try simp -dsimp -implicitDefEqProofs only [↓Wp.u_var, ↓Wp.u_cst, ↓Wp.u_glb, ↓Wp.u_fld, ↓Wp.u_bin, ↓Wp.u_neg, ↓Wp.u_cmp, ↓Wp.u_chn, ↓Wp.u_isN, ↓Wp.u_notN, ↓Wp.u_isB, ↓Wp.u_and, ↓Wp.u_or, ↓Wp.u_not, ↓Wp.u_ite, ↓Wp.u_tup, ↓Wp.u_lst, ↓Wp.u_dct0, ↓Wp.u_dct1, ↓Wp.u_call, ↓Wp.u_make, ↓Wp.u_meth, ↓Wp.u_bi, ↓Wp.u_bm, ↓Wp.u_idx, ↓Wp.u_sl, ↓Wp.u_rev, ↓Wp.u_lc, ↓Wp.u_frz, ↓Wp.u_nil, ↓Wp.u_cons, ↓Wp.u_tval, ↓Wp.u_tand, ↓Wp.u_tor, ↓Wp.u_tnot, ↓Wp.u_tn, ↓Wp.u_ts, ↓Wp.u_on, ↓Wp.u_os, ↓Wp.u_of, ↓Wp.u_rng1, ↓Wp.u_rng2, ↓Wp.u_rng3, ↓Wp.u_enum, ↓Wp.u_zip, ↓Wp.u_tname, ↓Wp.u_tfld, ↓Wp.u_tidx, ↓Wp.u_ttup, ↓Wp.u_tnil, ↓Wp.u_tcons, ↓Wp.u_set, ↓Wp.u_par, ↓Wp.u_aug, ↓Wp.u_ife, ↓Wp.u_for, ↓Wp.u_whil, ↓Wp.u_ret, ↓Wp.u_retN, ↓Wp.u_raise, ↓Wp.u_exp, ↓Wp.u_pass, ↓Wp.u_brk, ↓Wp.u_cnt, ↓Wp.u_never, ↓Wp.u_try, ↓Wp.u_snil, ↓Wp.u_scons, ↓Wp.u_augf, ↓Wp.u_turnL, ↓Wp.u_turnF, ↓Wp.opt_un, ↓reduceIte, Wp.optH_some, Wp.optH_none, Wp.u_finF, Wp.u_finL, Wp.u_finD, Wp.vr, Wp.bO, Wp.iO, Wp.nonD, Wp.blD, Lw.wipeE, Wp.parE, Wp.deref_non, Wp.deref_bl, Wp.deref_int, Wp.deref_str, Wp.deref_tup, Wp.deref_lst, Wp.deref_ins, Wp.deref_dct, Wp.deref_scr, Wp.deref_loc, Lw.truthF, Lw.lenF, Lw.keyF, Lw.getK, Lw.putK, Lw.idxF, Wp.idx_str, Lw.slF, Lw.revF, Lw.addF, Lw.subF, Wp.mulF_ok, Wp.mulF_r, Wp.mulF_l, Wp.mulF_lst, Wp.mulF_tup, Wp.mulF_str, Lw.fdivF, Lw.modF, Lw.powF, Lw.binF, Lw.augF, Lw.eqF, Lw.flatD, Lw.eqFl, Lw.inF, Lw.intsF, Lw.cmpF, Lw.isiF, Lw.lookF, Lw.fldF, Lw.clsF, Lw.mthF, Lw.strsF, Lw.blsF, Lw.one, Lw.two, Lw.tupleF, Lw.listF, Lw.intF, L2.ixN, Lw.min2F, Lw.max2F, Lw.maxlF, Lw.minlF, Lw.sumF, Lw.strF, Lw.absF, Lw.lrngF, Lw.isisF, Lw.biF, Lw.splitF, Lw.upperF, Lw.getF, Lw.bmF, Lw.extF, Lw.popF, Lw.bmM, Lw.argF, Lw.lstAt, Lw.itemsF, Lw.gdOf, Lw.frzF, Lw.setF, Lw.putFld, Lw.putIdx, Lw.bmT, Lw.bmW, Lw.tgsFit, Wp.dropE_nil, Wp.dropE_cons, Lw.delL, Wp.atI_zero, Wp.atI_pos, Wp.atI_last, Lw.Mem.set_same, Lw.Mem.set_set, Lw.Mem.set_ne, Lw.Mem.del_set, Wp.rngL_length, Wp.join_signs, Wp.mem_swap, Wp.sizeLine_val, Wp.one_inj, List.cons_append, List.nil_append, Int.reduceAbs, Nat.reducePow, Nat.reduceMod, Nat.reduceDiv, Nat.reduceAdd, Nat.reduceMul, Nat.reduceSub, Nat.reduceLT, Nat.reduceLeDiff, Nat.reduceEqDiff, Int.reduceAdd, Int.reduceSub, Int.reduceMul, Int.reduceLT, Int.reduceLE, Int.reduceGT, Int.reduceGE, Int.reduceEq, Int.reduceNe, Int.reducePow, Int.reduceToNat, Int.reduceDiv, Int.reduceMod, reduceCtorEq, Int.cast_ofNat_Int, if_true, if_false, Bool.false_eq_true, Option.some.injEq, Option.map_some, Option.bind_some, Option.map_none, Option.bind_none, Option.join_some, Option.isSome_some, Option.isSome_none, List.length_range, List.map_cons, List.map_nil, List.length_cons, List.length_nil, List.length_map, List.set_cons_zero, List.set_cons_succ, List.mem_cons, List.not_mem_nil, List.all_cons, List.all_nil, List.any_cons, List.any_nil, Bool.and_eq_true, Bool.and_true, Bool.true_and, Bool.and_false, Bool.false_and, Bool.or_false, Bool.false_or, Bool.or_true, Bool.true_or, Bool.not_true, Bool.not_false, Bool.not_eq_true, Bool.not_eq_false', Bool.not_eq_true', decide_eq_true_eq, decide_eq_false_iff_not, decide_true, decide_false, and_true, true_and, and_false, false_and, or_true, true_or, or_false, false_or, not_true_eq_false, not_false_eq_true, eq_self, ite_self, ne_eq, Int.reduceNeg, List.cons_ne_nil, S.gc_MOST_SMALL, S.gc_LEAST_SMALL, S.gc_MOST_SIGNS, S.gc_FREE, S.gc_WALL, S.gc_MARKS, S.gc_CELL, S.gc_PRIME, S.gc_MOST_SPEED, S.gc_MANY_CELLS, S.gc_MOST_BODIES_worlds, S.gc_MOST_TICK, S.gc_MANY_SHARED, S.gc_MOST_SAID, S.gc_LINE_END, S.gc_LETTERS, S.gc_BLANK, S.gc_MOST_ROWS, S.gc_MOST_SIDE, S.gc_MOST_PULL, S.gc_MOST_PLAYERS, S.gc_MOST_KINDS, S.gc_MOST_BIRTHS, S.gm_Screen_show, S.gm_Screen_shown, S.gm_Screen_picture, S.gi_Ground, S.gi_Kind, S.gi_Game, S.gi_World, S.gi_Screen, S.gf_Ground, S.gf_Kind, S.gf_Game, S.gf_World, S.gf_Screen, S.gs_NoWorld_NoWorld, S.gcls, S.N_Ground, S.N_rows, S.N_wide, S.N_high, S.N_Kind, S.N_solid, S.N_pull, S.N_program, S.N_Game, S.N_players, S.N_ground, S.N_kinds, S.N_births, S.N_World, S.N_tick, S.N_seed, S.N_shared, S.N_count, S.N_bodies, S.N_said, S.N_Screen, S.N_played, S.N_drawing, S.N_times, S.N_NoWorld, S.N_show, S.N_shown, S.N_picture, S.N_Program, S.w_is_integer, S.w_is_within, S.w_is_sized, S.w_is_sized_non, S.allF_map, S.anyF_map, S.w_is_small, S.w_is_seed, S.w_is_speed, S.w_are_small, S.w_law_sign, S.w_law_spots, S.w_law_common, S.w_law_program_of, S.cut14, S.cut_3, S.cut_4, S.cut_7, S.cut4_, S.cut1_, S.cut_n, S.w_is_body_non, S.cut_init, *])
section
variable {n : Nat} {M : Mem} {Q : DK1} {X : XK1} {hq : Hid Q} {hx hx' : Hid X}
theorem world_of_spec {a b c d e f : D} (k : Q (wdL [a, b, c, d, e, f]) M) : callH (wpF gg fs (n + 2)) F_law_world_of [.tup [a, b, c, d, e, f]] M Q X hq hx := by
  rw [go_law_world_of]
  walk_at "wp"
  refine world_make ?_
  walk_at "wp"
  exact k
/-- what the law keeps -/
def m0 : Mem := fun _ => none
def mst (a b c : Addr) (h : Hand) (g : D) (A : List Nat) (t : Int) (B : List Nat) (u : Int) : Mem := ((m0.set a (handMO h)).set b (scrMO g A t)).set c (scrMO g B u)
structure Far (a b c : Addr) : Prop where
  ab : a ≠ b
  ac : a ≠ c
  bc : b ≠ c
section
variable {a b c : Addr} {h h' : Hand} {g : D} {A B A' : List Nat} {t u t' : Int}
theorem mst_a (f : Far a b c) : mst a b c h g A t B u a = some (handMO h) := by
  unfold mst
  rw [Mem.set_ne f.ac, Mem.set_ne f.ab, Mem.set_same]
theorem mst_b (f : Far a b c) : mst a b c h g A t B u b = some (scrMO g A t) := by
  unfold mst
  rw [Mem.set_ne f.bc, Mem.set_same]
theorem mst_c : mst a b c h g A t B u c = some (scrMO g B u) := by
  unfold mst
  rw [Mem.set_same]
theorem mst_seta (f : Far a b c) : (mst a b c h g A t B u).set a (handMO h') = mst a b c h' g A t B u := by
  unfold mst
  rw [Mem.set_swap f.ac.symm, Mem.set_swap f.ab.symm, Mem.set_set]
theorem mst_setb (f : Far a b c) : (mst a b c h g A t B u).set b (scrMO g A' t') = mst a b c h g A' t' B u := by
  unfold mst
  rw [Mem.set_swap f.bc.symm, Mem.set_set]
theorem mst_setc : (mst a b c h g A t B u).set c (scrMO g A' t') = mst a b c h g A t A' t' := by
  unfold mst
  rw [Mem.set_set]
end
theorem told_ne {G1 G2 : Gd} {W H : Nat} : okS 3 (.tup [toldS, .tup (difF G1 G2 W H)]) ↔ (difF G1 G2 W H).length ≤ 16777216 := by
  simp only [okS, toldS, List.length_cons, List.length_nil, List.mem_cons, List.not_mem_nil, or_false, forall_eq_or_imp, forall_eq]
  constructor
  · rintro ⟨_, _, h, _⟩
    exact h
  · intro h
    refine ⟨by decide, by decide, h, fun x hx => ?_⟩
    simp only [difF, List.mem_flatMap, difRow, List.mem_filterMap] at hx
    obtain ⟨y, _, x', _, hh⟩ := hx
    split at hh
    · injection hh with hh
      subst hh
      simp [okS]
    · cases hh
theorem pic_spec {b : Addr} {g : D} {A : List Nat} {t : Int} (hb : M b = some (scrMO g A t)) : callH (wpF gg fs (n + 1)) F_Screen_picture [.loc b] M Q X hq hx = Q (.str A) M := by
  rw [go_Screen_picture]
  walk_at "wp*"
theorem shown_spec {b : Addr} {g : D} {A : List Nat} {t : Int} (hb : M b = some (scrMO g A t)) : callH (wpF gg fs (n + 1)) F_Screen_shown [.loc b] M Q X hq hx = Q (.int t) M := by
  rw [go_Screen_shown]
  walk_at "wp*"
abbrev tx (r : Gr) (G : Gd) : List Nat := textF (gridR r.W r.rows.length G)
theorem tx_len {r : Gr} {G : Gd} : (tx r G).length ≤ 16777216 := text_len (grid_rs (by have := r.h; omega) (by have := r.w; omega))
theorem plain0 (ns : List Int) (hns : ns.length ≤ 63) : callH (wpF gg fs 16) F_law [.scr ns] (fun _ => none) (fun d _ => d = .bl true) (fun _ _ => False) .mk .mk := by
  rw [go_law]
  walk_at "wp"
  refine hand_spec hns fun a h1 _ hk1 => ?_
  walk_at "wp"
  refine ground_spec Mem.set_same hk1 fun rows W H h2 q1 q2 q3 q4 q5 q6 hk2 => ?_
  subst q2
  obtain ⟨r, rfl, rfl⟩ : ∃ r : Gr, r.rows = rows ∧ r.W = W := ⟨⟨rows, W, q1, ⟨q3, q4⟩, ⟨q5, q6⟩⟩, rfl, rfl⟩
  walk_at "wp"
  refine kinds_spec Mem.set_same hk2 fun ks h3 hks hne hk8 hk3 => ?_
  have hk0 : 0 < ks.length := List.length_pos_iff.mpr hne
  walk_at "wp"
  refine take_spec Mem.set_same hk3 (by decide) (by decide) fun v h4 hk4 v0 v1 => ?_
  walk_at "wp"
  obtain ⟨pl, hpl, p1, p2⟩ : ∃ pl, 1 + v = pl ∧ 1 ≤ pl ∧ pl ≤ 4 := ⟨_, rfl, by omega, by omega⟩
  rw [hpl]
  refine game_of_spec hks hk0 hk8 p1 p2 ?_
  walk_at "wp"
  refine screen_make fun b hb => ?_
  obtain ⟨ab, _, _⟩ := new_ne hb
  walk_at "wp"
  refine screen_make fun c hc => ?_
  obtain ⟨bc, _, hc2⟩ := new_ne hc
  obtain ⟨ac, _, _⟩ := new_ne hc2
  have far : Far a b c := ⟨ab, ac, bc⟩
  have em : ((Mem.set (fun _ => none) a (handMO h4)).set b (scrMO (gameI r ks pl) (textF r.rows) 0)).set c (scrMO (gameI r ks pl) (textF r.rows) 0) = mst a b c h4 (gameI r ks pl) (textF r.rows) 0 (textF r.rows) 0 := rfl
  rw [em]
  clear em
  walk_at "wp"
  rw [w_closed r.rs]
  walk_at "wp"
  refine parts_spec (mst_a far) hk4 hks hk0 hk8 (by decide) (by decide) p1 p2 fun w h5 hk5 hw => ?_
  rw [mst_seta far]
  have eg : textF r.rows = tx r (groundG r) := by unfold tx; rw [← grid_ground r]
  rw [eg]
  have ea := fun h A t B u => mst_a (h := h) (g := gameI r ks pl) (A := A) (t := t) (B := B) (u := u) far
  have eb := fun h A t B u => mst_b (h := h) (g := gameI r ks pl) (A := A) (t := t) (B := B) (u := u) far
  have ec := fun h A t B u => mst_c (a := a) (b := b) (c := c) (h := h) (g := gameI r ks pl) (A := A) (t := t) (B := B) (u := u)
  clear eg hb hc hc2 hpl hk1 hk2 hk3 hk4
  walk_at "wp*"
  rw [pic_spec (mst_b far)]
  walk_at "wp"
  refine w_same 0 (n := 13) _ tx_len ?_
  walk_at "wp*"
  rw [shown_spec (mst_b far)]
  walk_at "wp"
  refine w_same 0 (n := 13) (.int 0) trivial ?_
  walk_at "wp"
  refine take_spec (mst_a far) hk5 (by decide) (by decide) fun m h6 hk6 m0 m1 => ?_
  rw [mst_seta far]
  have r1 : -4611686018427387904 ≤ 1 + m := by omega
  have r2 : 1 + m < 4611686018427387904 := by omega
  walk_at "wp*"
  clear r1 r2
  refine forH_inv (fun rest e m => ∃ h G cnt w o11 o12 o13 o14 o15 o16 o17 o18, e = [some (.scr ns), some (.loc a), some r.d, some (.lst (ks.map kdD)), some (.int pl), some (gameI r ks pl), some (.loc b), some (.loc c), some (.str (tx r G)), some (.tup (wdParts w)), some (.int cnt), o11, o12, o13, o14, o15, o16, o17, o18] ∧
      m = mst a b c h (gameI r ks pl) (tx r G) cnt (tx r G) cnt ∧ HandOK h ∧ WdOK r ks pl w ∧ ∀ y x, G y x ≠ 10)
    ⟨h6, groundG r, 0, w, none, none, none, none, none, none, none, none, rfl, rfl, hk6, hw, fun y x => at_no10⟩ ?_ ?_
  · rintro d rest e m kk ⟨h, G, cnt, w, o11, o12, o13, o14, o15, o16, o17, o18, rfl, rfl, hk, hw, hG⟩ kn
    refine ⟨trivial, ?_⟩
    rw [u_turnF, u_tname]
    refine cutN 5 (fun e m => (∃ h d w o11 o12 o16 o17 o18, e = [some (.scr ns), some (.loc a), some r.d, some (.lst (ks.map kdD)), some (.int pl), some (gameI r ks pl), some (.loc b), some (.loc c), some (.str (tx r G)), some (.tup (wdParts w)), some (.int cnt), o11, o12, some d, some noS, some noS, o16, o17, o18] ∧
        m = mst a b c h (gameI r ks pl) (tx r G) cnt (tx r G) cnt ∧ HandOK h ∧ WdOK r ks pl w ∧ NoW (gameI r ks pl) d) ∨
      (∃ h w o11 o12 o16 o17 o18, e = [some (.scr ns), some (.loc a), some r.d, some (.lst (ks.map kdD)), some (.int pl), some (gameI r ks pl), some (.loc b), some (.loc c), some (.str (tx r (seenG r ks w.bs))), some (.tup (wdParts w)), some (.int (cnt + 1)), o11, o12, some (wdL (wdParts w)), some (.tup [toldS, .tup (difF G (seenG r ks w.bs) r.W r.rows.length)]), some (.tup [toldS, .str (textF (w.bs.map lineF))]), o16, o17, o18] ∧
        m = mst a b c h (gameI r ks pl) (tx r G) cnt (tx r G) cnt ∧ HandOK h ∧ WdOK r ks pl w)) ?_ ?_
    · intro J kj
      simp only [b_law_1, takeS]
      walk_at "wp"
      refine take_spec (mst_a far) hk (by decide) (by decide) fun v2 h7 hk7 v20 v21 => ?_
      rw [mst_seta far]
      walk_at "wp"
      refine odd_spec (mst_a far) hk7 fun od h8 hod hk8' => ?_
      rw [mst_seta far]
      walk_at "wp"
      obtain ⟨s0, s0m, _, l0, e0⟩ := r.row (y := 0) (by omega) (by omega)
      have b0 : s0.length ≤ 16777216 := by omega
      have b1 : r.W ≤ 16777216 := by omega
      clear s0m
      split
      · have hbl : w.bs.length ≤ 16777215 := by have := hw.bl; omega
        rw [lcH_mapT (fun b => farD b) trivial (by omega) fun b hb k => ?_]
        · replace kj := Nonempty.intro kj
          walk_at "wp*"
          refine world_of_spec ?_
          walk_at "wp"
          obtain ⟨kj⟩ := kj
          exact kj _ _ (.inl ⟨h8, wdL (farP w), w, _, _, _, _, _, rfl, rfl, hk8', hw, .far hks hw⟩)
        · walk_at "wp"
      · split
        · split
          · refine pick_spec (mst_a far) hk8' (by simp) (by decide) fun x h9 hx9 hk9 => ?_
            rw [mst_seta far]
            obtain ⟨i, rfl, i1, i2⟩ : ∃ i, x = .int i ∧ 0 ≤ i ∧ i ≤ 7 := by
              simp only [List.mem_cons, List.not_mem_nil, or_false] at hx9
              rcases hx9 with rfl | rfl | rfl | rfl <;> exact ⟨_, rfl, by decide, by decide⟩
            walk_at "wp"
            refine parts_spec (mst_a far) hk9 hks hk0 hk8 i1 i2 p1 p2 fun w2 h10 hk10 hw2 => ?_
            rw [mst_seta far]
            walk_at "wp"
            refine world_of_spec ?_
            walk_at "wp"
            refine w_shown (fun b hb => hw2.bs.p.k b.p (List.mem_map.mpr ⟨b, hb, rfl⟩)) hk8 ?_
            walk_at "wp*"
            refine w_differences (by omega) (by omega) ?_
            walk_at "wp"
            refine w_bodies_text (wd_num hks hk8 p2 hw2) (by have := hw2.bl; omega) ?_
            walk_at "wp"
            exact kj _ _ (.inr ⟨h10, w2, _, _, _, _, _, rfl, rfl, hk10, hw2⟩)
          · refine world_of_spec ?_
            walk_at "wp"
            refine w_shown (fun b hb => hw.bs.p.k b.p (List.mem_map.mpr ⟨b, hb, rfl⟩)) hk8 ?_
            walk_at "wp*"
            refine w_differences (by omega) (by omega) ?_
            walk_at "wp"
            refine w_bodies_text (wd_num hks hk8 p2 hw) (by have := hw.bl; omega) ?_
            walk_at "wp"
            exact kj _ _ (.inr ⟨h8, w, _, _, _, _, _, rfl, rfl, hk8', hw⟩)
        · exact kj _ _ (.inl ⟨h8, od, w, _, _, _, _, _, rfl, rfl, hk8', hw, .odd hod⟩)
    · intro e m hJ
      have okn : okS 1 noS := by
        simp [okS, noS]
      simp only [b_law_1, dropS]
      rcases hJ with ⟨h, d, w, o11, o12, o16, o17, o18, rfl, rfl, hk, hw, hd⟩ | ⟨h, w, o11, o12, o16, o17, o18, rfl, rfl, hk, hw⟩
      · walk_at "wp"
        refine show_no hd (mst_b far) ?_
        walk_at "wp"
        refine w_same 1 (n := 12) _ okn ?_
        walk_at "wp"
        refine told_no hd ?_
        walk_at "wp"
        refine w_same 1 (n := 12) _ okn ?_
        walk_at "wp"
        simp only [eb]
        walk_at "wp"
        rw [pic_spec (mst_b far)]
        walk_at "wp"
        refine w_same 0 (n := 13) _ tx_len ?_
        walk_at "wp"
        simp only [eb]
        walk_at "wp"
        rw [shown_spec (mst_b far)]
        walk_at "wp"
        refine w_same 0 (n := 13) (.int cnt) trivial ?_
        walk_at "wp"
        refine show_no hd mst_c ?_
        walk_at "wp"
        refine w_same 1 (n := 12) _ okn ?_
        walk_at "wp"
        simp only [ec]
        walk_at "wp"
        rw [pic_spec mst_c]
        walk_at "wp"
        refine w_same 0 (n := 13) _ tx_len ?_
        walk_at "wp"
        exact kn _ _ ⟨h, G, cnt, w, _, _, _, _, _, _, _, _, rfl, rfl, hk, hw, hG⟩
      · have okd : okS 3 (.tup [toldS, .tup (difF G (seenG r ks w.bs) r.W r.rows.length)]) := told_ne.mpr (by
          have := difF_len (G1 := G) (G2 := seenG r ks w.bs) (W := r.W) (H := r.rows.length)
          have := small_mul (a := r.rows.length) (b := r.W) (by omega) (by omega)
          omega)
        have okt : okS 3 (.tup [toldS, .str (textF (w.bs.map lineF))]) := by
          have := text_len (lines_rs (wd_num hks hk8 p2 hw) (by have := hw.bl; omega))
          simp [okS, toldS, this]
        walk_at "wp"
        refine show_ok hks hk8 hw hG (mst_b far) ?_
        rw [mst_setb far]
        walk_at "wp"
        refine w_same 3 (n := 10) _ okd ?_
        walk_at "wp"
        refine told_ok hks hw (wd_num hks hk8 p2 hw) ?_
        walk_at "wp"
        refine w_same 3 (n := 10) _ okt ?_
        walk_at "wp"
        have eb2 := fun t B u => mst_b (a := a) (b := b) (c := c) (h := h) (g := gameI r ks pl) (A := tx r (seenG r ks w.bs)) (t := t) (B := B) (u := u) far
        simp only [eb2]
        walk_at "wp"
        rw [pic_spec (mst_b far)]
        walk_at "wp"
        refine w_same 0 (n := 13) _ tx_len ?_
        walk_at "wp"
        simp only [eb2]
        walk_at "wp"
        rw [shown_spec (mst_b far)]
        walk_at "wp"
        refine w_same 0 (n := 13) (.int (cnt + 1)) trivial ?_
        walk_at "wp"
        refine show_ok hks hk8 hw hG mst_c ?_
        rw [mst_setc]
        walk_at "wp"
        refine w_same 3 (n := 10) _ okd ?_
        walk_at "wp"
        have ec2 := fun A t u => mst_c (a := a) (b := b) (c := c) (h := h) (g := gameI r ks pl) (A := A) (t := t) (B := tx r (seenG r ks w.bs)) (u := u)
        simp only [ec2]
        walk_at "wp"
        rw [pic_spec mst_c]
        walk_at "wp"
        refine w_same 0 (n := 13) _ tx_len ?_
        walk_at "wp"
        exact kn _ _ ⟨h, seenG r ks w.bs, cnt + 1, w, _, _, _, _, _, _, _, _, rfl, rfl, hk, hw, seen_no10⟩
  · rintro e m ⟨h, G, cnt, w, o11, o12, o13, o14, o15, o16, o17, o18, rfl, rfl, hk, hw, hG⟩
    refine ⟨trivial, ?_⟩
    walk_at "wp"
def lvl : Nat := 16
theorem plain (ns : List Int) (h : ns.length ≤ 63) : wpF tb.g (fsOf dds) lvl F_law [.scr ns] (fun _ => none) (fun d _ => d = .bl true) (fun _ _ => False) := plain0 ns h
end
end S

set_option Elab.async false
set_option linter.all false
set_option maxRecDepth 100000
set_option maxHeartbeats 0
open PySem PySem.W PySem.Calls PyProof.Rows
theorem PySem.Challenge.cw_swornworlds_k72_whole_screens_show_what_holds : PySem.Challenge.rw_swornworlds_k72_whole_screens_show_what.Holds := by
  w_on; o_law
  refine HandSHeadRun.head_any (r := OpenLaw.row PySem.Challenge.rw_swornworlds_k72_whole_screens_show_what) (q := view (OpenLaw.row PySem.Challenge.rw_swornworlds_k72_whole_screens_show_what).prog [S.lawi]) (H := S.hk) (ob := S.ob) (M := 9000) (loose := S.loose) (d := HandSHeadRun.topDef (OpenLaw.row PySem.Challenge.rw_swornworlds_k72_whole_screens_show_what).prog S.lawi) (kwd := []) S.ob_eq
    (by kernel_rfl) (fun s => by kernel_rfl) S.run (by kernel_rfl) (by kernel_rfl) (by kernel_rfl) (by rfl) (by first | assumption | decide +kernel) (by decide +kernel) ⟨rfl, rfl, rfl, rfl, rfl, by decide +kernel⟩ ?hw ?hc
  case hw => w_witness2
  case hc =>
    refine Lw.walkW (l := PySem.Challenge.rw_swornworlds_k72_whole_screens_show_what) (n := 63) (k := 2 * S.lvl) (x := "script") rfl (by decide) (by kernel_rfl) ⟨rfl, by decide, by decide⟩ ?F
    intro w mg fa h Y G hmg
    obtain ⟨K, KX, c⟩ := Y
    have e : (HandSHeadRun.topDef (OpenLaw.row PySem.Challenge.rw_swornworlds_k72_whole_screens_show_what).prog S.lawi).name = ("law" : Str) := by kernel_rfl
    rw [e] at hmg
    obtain ⟨fd, sp, a1, a2, a3⟩ := Lw.law_of (i := S.F_law) (l := S.lvl) (x := S.dd67) (P := PySem.Challenge.rw_swornworlds_k72_whole_screens_show_what.prog) (w := w) S.fits_ok S.chk_ok S.binds rfl rfl rfl KX G hmg c S.plain
    exact ⟨K, fd, sp, KX, a1, a2, a3⟩

